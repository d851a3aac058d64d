import PyProof.Rows.All
import Wide.All
import OpenK.AllK
import Wide.FinOn
import HandS.Base
import HandS.Call
import HandS.Ends
import HandS.More
import HandS.Words
import HandS.WordsExc
import HandS.Defaults
import HandS.Head0
import HandS.Head1
import HandS.Head2
import HandS.HeadEnd
import HandS.HeadHook1
import HandS.HeadHook2
import HandS.ForMost
import HandS.TupAny
import HandS.Style
import HandS.Conv
import HandS.Deep
import HandS.Zip
import HandS.Strs
import HandS.Gcd
import HandS.IsInst
import HandS.Flow
import KE.DataMinMax
import KE.DataEq
import KE.DataAny
import KE.DataIsa
import KE.LtData
import KE.SortData
import HandS.TupMul
import HandS.Walk
import KE.GoesEnum
import HandS.ForExc
import HandS.SortOrd
import HandS.SortRule
import KE.SortCalls
import KE.KSortTup
import KE.KSortAsk
import HandS.Rev
import HandS.SetFor
import KE.KRevSl
import HandS.WordsDict
import HandS.TupLen
import HandS.SortKw
import KE.DataMinKey
import KE.KStateDown
import HandS.Text
import PySem.Challenge.RW_letterspiled_k85_whole_beginnings_and_co
set_option Elab.async false
set_option linter.all false
set_option maxRecDepth 100000
set_option maxHeartbeats 0
namespace LW
open PySem PySem.Spec PyProof.Rows L2
def top (i : Nat) : Stmt := PySem.Challenge.pw_letterspiled_k85_whole_beginnings_and_co.main.body.getD i (.Pass ⟨0, 0, 0, 0⟩)
/-! ### the head -/
def mkD (x : Str) (i : Nat) : He.DefD := ⟨(x, none), x, x, defArgs (top i), defBody (top i), defScope (top i), [], []⟩
def fn : List He.DefD := ([mkD "_law_roll" 95, mkD "_law_letters" 99, mkD "_law_sort" 97, mkD "_law_like" 98, mkD "_law_some" 96, mkD "is_free" 18, mkD "is_tuple_of" 12, mkD "is_whole" 10, mkD "is_pair" 15, mkD "is_letters" 16, mkD "need_letters" 17, mkD "is_word_of" 29, mkD "first_places" 31, mkD "least" 32, mkD "is_pile_of" 33, mkD "need_pile" 34, mkD "need_two" 44, mkD "taken" 40, mkD "behind_in" 41, mkD "common_in" 63, mkD "rests_in" 83, mkD "above_bar" 87, mkD "apart_in" 64, mkD "are_apart" 66, mkD "need_four" 68, mkD "are_four_parts" 73, mkD "need_word" 30, mkD "step_in" 37, mkD "barred_behind" 38, mkD "need_piles" 61] : List He.DefD) ++ ([mkD "need_all" 62, mkD "common_beginning" 65, mkD "are_alike_in" 69, mkD "need_joins" 71, mkD "parts_in" 70, mkD "four_parts" 72, mkD "every_letter" 23, mkD "sets_in" 20, mkD "free_sets" 24, mkD "is_some" 21, mkD "is_free_in" 22, mkD "is_free_set" 25, mkD "joined_pile" 35, mkD "above_in" 84, mkD "above_all_in" 85, mkD "pile_above" 86, mkD "_law_above_right" 103, mkD "kept_places" 54, mkD "next_bits" 52, mkD "tied_below" 51, mkD "levels_in" 53, mkD "beginnings_in" 55, mkD "need_one" 56, mkD "turned_round" 42, mkD "endings_of" 58, mkD "is_beginning" 45, mkD "ahead_in" 43, mkD "is_ending" 46, mkD "tops_in" 90, mkD "is_pointed" 92] : List He.DefD) ++ ([mkD "left_ahead" 48, mkD "left_behind" 47, mkD "sign_in" 75, mkD "counts_in" 79, mkD "need_whole" 11, mkD "pile_counts" 80, mkD "piles_of_length" 81, mkD "_law_counts_right" 100, mkD "_law_cup" 94, mkD "_law_all_sets" 102, mkD "beginnings_of" 57, mkD "_law_signs_right" 101, mkD "greatest_free_sets" 26, mkD "by_top" 89, mkD "pointed_counts" 91, mkD "_law_written_right" 104, mkD "law" 105] : List He.DefD)
def fa : List He.Fa := ([.glo "_law_roll", .glo "_law_letters", .glo "_law_sort", .glo "_law_like", .glo "_law_some", .glo "is_free", .glo "is_tuple_of", .glo "is_whole", .glo "is_pair", .glo "is_letters", .glo "need_letters", .glo "is_word_of", .glo "first_places", .glo "least", .glo "is_pile_of", .glo "need_pile", .glo "need_two", .glo "taken", .glo "behind_in", .glo "common_in", .glo "rests_in", .glo "above_bar", .glo "apart_in", .glo "are_apart", .glo "need_four", .glo "are_four_parts", .glo "need_word", .glo "step_in", .glo "barred_behind", .glo "need_piles"] : List He.Fa) ++ ([.glo "need_all", .glo "common_beginning", .glo "are_alike_in", .glo "need_joins", .glo "parts_in", .glo "four_parts", .glo "every_letter", .glo "sets_in", .glo "free_sets", .glo "is_some", .glo "is_free_in", .glo "is_free_set", .glo "joined_pile", .glo "above_in", .glo "above_all_in", .glo "pile_above", .glo "_law_above_right", .glo "kept_places", .glo "next_bits", .glo "tied_below", .glo "levels_in", .glo "beginnings_in", .glo "need_one", .glo "turned_round", .glo "endings_of", .glo "is_beginning", .glo "ahead_in", .glo "is_ending", .glo "tops_in", .glo "is_pointed"] : List He.Fa) ++ ([.glo "left_ahead", .glo "left_behind", .glo "sign_in", .glo "counts_in", .glo "need_whole", .glo "pile_counts", .glo "piles_of_length", .glo "_law_counts_right", .glo "_law_cup", .glo "_law_all_sets", .glo "beginnings_of", .glo "_law_signs_right", .glo "greatest_free_sets", .glo "by_top", .glo "pointed_counts", .glo "_law_written_right", .glo "law", .free "abs", .free "all", .free "bool", .free "enumerate", .free "int", .free "isinstance", .free "len", .free "list", .free "max", .free "min", .free "range", .free "set", .free "sorted"] : List He.Fa) ++ ([.free "str", .free "sum", .free "tuple", .free "zip", .int "LONG_pilecounts" 60, .int "LONG_words" 60, .int "MANY_beginninglists" 2000, .int "MANY_pilecounts" 2000, .int "MOST_commonpiles" 10, .int "MOST_letters" 8] : List He.Fa)
def loose : List Str := (["InvalidLetters", "InvalidNumber", "InvalidPile", "InvalidSet", "InvalidWord", "LONG_pilecounts", "LONG_words", "MANY_beginninglists", "MANY_pilecounts", "MOST_commonpiles", "MOST_letters", "NotNow", "PileError", "TooMany", "__name__", "_law_above_right", "_law_all_sets", "_law_counts_right", "_law_cup", "_law_letters", "_law_like", "_law_roll", "_law_signs_right", "_law_some", "_law_sort", "_law_written_right", "above_all_in", "above_bar", "above_in", "ahead_in"] : List Str) ++ (["apart_in", "are_alike_in", "are_apart", "are_four_parts", "barred_behind", "beginnings_in", "beginnings_of", "behind_in", "by_top", "common_beginning", "common_in", "counts_in", "endings_of", "every_letter", "first_places", "four_parts", "free_sets", "greatest_free_sets", "is_beginning", "is_ending", "is_free", "is_free_in", "is_free_set", "is_letters", "is_pair", "is_pile_of", "is_pointed", "is_some", "is_tuple_of", "is_whole"] : List Str) ++ (["is_word_of", "joined_pile", "kept_places", "least", "left_ahead", "left_behind", "levels_in", "need_all", "need_four", "need_joins", "need_letters", "need_one", "need_pile", "need_piles", "need_two", "need_whole", "need_word", "next_bits", "parts_in", "pile_above", "pile_counts", "piles_of_length", "pointed_counts", "rests_in", "sets_in", "sign_in", "step_in", "taken", "tied_below", "tops_in"] : List Str) ++ (["turned_round"] : List Str)
abbrev R : PySem.W.OpenRow := PySem.W.OpenLaw.row PySem.Challenge.rw_letterspiled_k85_whole_beginnings_and_co
abbrev hk : PySem.W.Hook := He.hookD 4 fa fn
def ob (s : PySem.W.SharedT) : He.AlD := He.obsDG 4 fa fn (HandSHeadRun.getT s)
theorem ob_eq (s : PySem.W.SharedT) : ob s = hk.obs s.abs := He.obsDG_eq (HandSHeadRun.getT_eq s)
theorem run (w : World) : HandSHeadRun.RunEq R (PySem.W.view R.prog [105]) hk ob 6000 loose w := by
  intro os
  kernel_rfl
end LW
set_option linter.all false
set_option maxRecDepth 100000
set_option maxHeartbeats 4000000
/-! Ev1: pure meanings of a def's text: data, cells, environments; the judgements AE, AT, AA, AS over the hand layer. -/
namespace Ev
open PySem PySem.Spec PyProof.Rows L2
/-- where the cells stand; what is under construction -/
structure G where
  al : List (Option Addr)
  hid : List Addr
def G.fr (g : G) (a : Addr) : Prop := some a ∉ g.al ∧ a ∉ g.hid
def Fixed : HO → Prop
  | .tup _ => True
  | .frz _ _ => True
  | _ => False
structure Ext (g : G) (H : Hp) (g' : G) (H' : Hp) : Prop where
  hid : g'.hid = g.hid
  grow : ∀ b o, H b = some o → (some b ∈ g.al → Fixed o) → H' b = some o
  live : ∀ (n : Nat) (a : Addr), g.al[n]? = some (some a) → g'.al[n]? = some (some a) ∨ g'.al[n]? = some none
  dead : ∀ (n : Nat), g.al[n]? = some none → g'.al[n]? = some none
  new : ∀ a, some a ∈ g'.al → some a ∈ g.al ∨ H a = none
  keep : ∀ a, H a ≠ none → H' a ≠ none
theorem Ext.refl {g : G} {H : Hp} : Ext g H g H := ⟨rfl, fun _ _ h _ => h, fun _ _ h => .inl h, fun _ h => h, fun _ h => .inl h, fun _ h => h⟩
theorem Ext.trans {g g1 g2 : G} {H H1 H2 : Hp} (a : Ext g H g1 H1) (b : Ext g1 H1 g2 H2) : Ext g H g2 H2 where
  hid := b.hid.trans a.hid
  grow := fun c o h f => b.grow c o (a.grow c o h f) fun m => (a.new c m).elim f fun z => by rw [h] at z; cases z
  live := fun n c h => (a.live n c h).elim (fun h => b.live n c h) fun h => .inr (b.dead n h)
  dead := fun n h => b.dead n (a.dead n h)
  new := fun c h => (b.new c h).elim (a.new c) fun z => by
    by_cases m : some c ∈ g.al
    · exact .inl m
    · cases q : H c with
      | none => exact .inr rfl
      | some o =>
        rw [a.grow c o q fun m' => absurd m' m] at z
        cases z
  keep := fun c h => b.keep c (a.keep c h)
/-- the same, and what is hidden may be more -/
structure Mo (g : G) (H : Hp) (g' : G) (H' : Hp) : Prop where
  hid : ∀ a, a ∈ g'.hid → a ∈ g.hid ∨ H a = none
  grow : ∀ b o, H b = some o → (some b ∈ g.al → Fixed o) → H' b = some o
  live : ∀ (n : Nat) (a : Addr), g.al[n]? = some (some a) → g'.al[n]? = some (some a) ∨ g'.al[n]? = some none
  dead : ∀ (n : Nat), g.al[n]? = some none → g'.al[n]? = some none
  new : ∀ a, some a ∈ g'.al → some a ∈ g.al ∨ a ∈ g.hid ∨ H a = none
theorem Ext.mo {g g' : G} {H H' : Hp} (x : Ext g H g' H') : Mo g H g' H' := ⟨fun a m => .inl (by rw [← x.hid]; exact m), x.grow, x.live, x.dead, fun a m => (x.new a m).elim .inl fun h => .inr (.inr h)⟩
theorem Mo.refl {g : G} {H : Hp} : Mo g H g H := Ext.refl.mo
theorem Ext.hide {g g' : G} {H H' : Hp} (x : Ext g H g' H') {D : Addr} (h : H D = none) : Mo g H ⟨g'.al, D :: g'.hid⟩ H' :=
  ⟨fun a m => (List.mem_cons.mp m).elim (fun z => .inr (by rw [z]; exact h)) fun m => .inl (by rw [← x.hid]; exact m), x.grow, x.live, x.dead, fun a m => (x.new a m).elim .inl fun h => .inr (.inr h)⟩
theorem Mo.unhide {al : List (Option Addr)} {hd : List Addr} {D : Addr} {H : Hp} : Mo ⟨al, D :: hd⟩ H ⟨al, hd⟩ H := ⟨fun a m => .inl (List.mem_cons_of_mem _ m), fun _ _ h _ => h, fun _ _ h => .inl h, fun _ h => h, fun _ h => .inl h⟩
theorem Mo.publish {al : List (Option Addr)} {hd : List Addr} {D : Addr} {H : Hp} : Mo ⟨al, D :: hd⟩ H ⟨al ++ [some D], hd⟩ H where
  hid := fun a m => .inl (List.mem_cons_of_mem _ m)
  grow := fun _ _ h _ => h
  live := fun n a e => .inl (by
    show (al ++ [some D])[n]? = _
    rw [List.getElem?_append_left (List.getElem?_eq_some_iff.mp e).1]; exact e)
  dead := fun n e => by
    show (al ++ [some D])[n]? = _
    rw [List.getElem?_append_left (List.getElem?_eq_some_iff.mp e).1]; exact e
  new := fun a m => by
    rcases List.mem_append.mp m with m | m
    · exact .inl m
    · have : a = D := by simpa using m
      subst this
      exact .inr (.inl List.mem_cons_self)
/-- a new object that is no cell -/
theorem Ext.upd {g : G} {H : Hp} {p : Addr} {o : HO} (h : H p = none) : Ext g H g (upd H p o) :=
  ⟨rfl, fun b u e _ => by rw [upd_ne (ne_of_none e h)]; exact e, fun _ _ h => .inl h, fun _ h => h, fun _ h => .inl h, fun b e => by
    by_cases q : b = p
    · rw [q, upd_same]; intro z; cases z
    · rw [upd_ne q]; exact e⟩
mutual
/-- a value of the abstract heap that is data: no list that is a cell lies within -/
inductive R0 (K : PySem.W.Frag) (g : G) (H : Hp) : V → PyData → Prop
  | non : R0 K g H .non .none
  | bl (b : Bool) : R0 K g H (.bl b) (.bool b)
  | int (i : Int) : R0 K g H (.int i) (.int i)
  | str (x : Str) : R0 K g H (.str x) (.str x)
  | lst {a : Addr} {xs : List V} {ds : List PyData} : H a = some (.lst xs) → g.fr a → R0s K g H xs ds → R0 K g H (.ref a) (.list ds)
  | tup {a : Addr} {xs : List V} {ds : List PyData} : H a = some (.tup xs) → R0s K g H xs ds → R0 K g H (.ref a) (.tuple ds)
inductive R0s (K : PySem.W.Frag) (g : G) (H : Hp) : List V → List PyData → Prop
  | nil : R0s K g H [] []
  | cons {v : V} {vs : List V} {d : PyData} {ds : List PyData} : R0 K g H v d → R0s K g H vs ds → R0s K g H (v :: vs) (d :: ds)
end
section
variable {K : PySem.W.Frag} {g g' : G} {H H' : Hp}
theorem Rd.ext {a : Addr} {xs : List V} (x : Mo g H g' H') (h : Rd H a (.lst xs)) (f : g.fr a) : Rd H' a (.lst xs) := by
  rcases h with h | ⟨o, h⟩
  · exact .inl (x.grow _ _ h fun m => absurd m f.1)
  · exact .inr ⟨o, x.grow _ _ h fun m => absurd m f.1⟩
theorem Rd.extT {a : Addr} {xs : List V} (x : Mo g H g' H') (h : Rd H a (.tup xs)) : Rd H' a (.tup xs) := by
  rcases h with h | ⟨o, h⟩
  · exact .inl (x.grow _ _ h fun _ => trivial)
  · exact .inr ⟨o, x.grow _ _ h fun _ => trivial⟩
theorem Rd.some {a : Addr} {u : HO} (h : Rd H a u) : H a ≠ none := by
  rcases h with h | ⟨o, h⟩ <;> (rw [h]; intro z; cases z)
theorem G.fr.ext {a : Addr} (x : Mo g H g' H') (f : g.fr a) (h : H a ≠ none) : g'.fr a :=
  ⟨fun m => (x.new a m).elim f.1 fun z => z.elim f.2 h, fun m => (x.hid a m).elim f.2 h⟩
mutual
theorem R0.mo (x : Mo g H g' H') : ∀ {v : V} {d : PyData}, R0 K g H v d → R0 K g' H' v d
  | _, _, .non => .non
  | _, _, .bl b => .bl b
  | _, _, .int i => .int i
  | _, _, .str x => .str x
  | _, _, .lst h f t => .lst (x.grow _ _ h fun m => absurd m f.1) (f.ext x (by rw [h]; intro z; cases z)) (R0s.mo x t)
  | _, _, .tup h t => .tup (x.grow _ _ h fun _ => trivial) (R0s.mo x t)
theorem R0s.mo (x : Mo g H g' H') : ∀ {vs : List V} {ds : List PyData}, R0s K g H vs ds → R0s K g' H' vs ds
  | _, _, .nil => .nil
  | _, _, .cons h t => .cons (R0.mo x h) (R0s.mo x t)
end
theorem R0.mono (x : Ext g H g' H') {v : V} {d : PyData} (h : R0 K g H v d) : R0 K g' H' v d := h.mo x.mo
theorem R0s.mono (x : Ext g H g' H') {vs : List V} {ds : List PyData} (h : R0s K g H vs ds) : R0s K g' H' vs ds := h.mo x.mo
mutual
theorem R0.dp : ∀ {v : V} {d : PyData}, R0 K g H v d → Dp K H v d
  | _, _, .non => .non
  | _, _, .bl b => .bl b
  | _, _, .int i => .int i
  | _, _, .str x => .str x
  | _, _, .lst h _ t => .lst (.inl (.inl h)) (R0s.dp t)
  | _, _, .tup h t => .tup (.inl (.inl h)) (R0s.dp t)
theorem R0s.dp : ∀ {vs : List V} {ds : List PyData}, R0s K g H vs ds → DpAll K H vs ds
  | _, _, .nil => .nil
  | _, _, .cons h t => .cons (R0.dp h) (R0s.dp t)
end
mutual
theorem R0.plain : ∀ {v : V} {d : PyData}, R0 K g H v d → d.plain = true
  | _, _, .non => rfl
  | _, _, .bl b => rfl
  | _, _, .int i => rfl
  | _, _, .str x => rfl
  | _, _, .lst h _ t => by rw [PyData.plain]; exact R0s.plain t
  | _, _, .tup _ t => by rw [PyData.plain]; exact R0s.plain t
theorem R0s.plain : ∀ {vs : List V} {ds : List PyData}, R0s K g H vs ds → PyData.plainAll ds = true
  | _, _, .nil => rfl
  | _, _, .cons h t => by rw [PyData.plainAll, R0.plain h, R0s.plain t]; rfl
end
theorem R0s.length : ∀ {vs : List V} {ds : List PyData}, R0s K g H vs ds → vs.length = ds.length
  | _, _, .nil => rfl
  | _, _, .cons _ t => congrArg (· + 1) t.length
theorem R0s.get : ∀ {vs : List V} {ds : List PyData} {i : Nat} {v : V}, R0s K g H vs ds → vs[i]? = some v → ∃ d, ds[i]? = some d ∧ R0 K g H v d
  | _, _, _, _, .nil, e => by simp at e
  | _, _, 0, _, .cons h _, e => by simp at e; subst e; exact ⟨_, rfl, h⟩
  | _, _, i + 1, v, .cons _ t, e => by
    obtain ⟨d, h1, h2⟩ := R0s.get (i := i) t (by simpa using e)
    exact ⟨d, by simpa using h1, h2⟩
theorem R0s.getD : ∀ {vs : List V} {ds : List PyData} {i : Nat} {d : PyData}, R0s K g H vs ds → ds[i]? = some d → ∃ v, vs[i]? = some v ∧ R0 K g H v d
  | _, _, _, _, .nil, e => by simp at e
  | _, _, 0, _, .cons h _, e => by simp at e; subst e; exact ⟨_, rfl, h⟩
  | _, _, i + 1, v, .cons _ t, e => by
    obtain ⟨d, h1, h2⟩ := R0s.getD (i := i) t (by simpa using e)
    exact ⟨d, by simpa using h1, h2⟩
theorem R0s.append : ∀ {vs ws : List V} {ds es : List PyData}, R0s K g H vs ds → R0s K g H ws es → R0s K g H (vs ++ ws) (ds ++ es)
  | _, _, _, _, .nil, s => s
  | _, _, _, _, .cons h t, s => .cons h (R0s.append t s)
theorem R0s.take : ∀ {vs : List V} {ds : List PyData} (n : Nat), R0s K g H vs ds → R0s K g H (vs.take n) (ds.take n)
  | _, _, 0, _ => .nil
  | _, _, _ + 1, .nil => .nil
  | _, _, n + 1, .cons h t => .cons h (R0s.take n t)
theorem R0s.drop : ∀ {vs : List V} {ds : List PyData} (n : Nat), R0s K g H vs ds → R0s K g H (vs.drop n) (ds.drop n)
  | _, _, 0, r => r
  | _, _, _ + 1, .nil => .nil
  | _, _, n + 1, .cons _ t => R0s.drop n t
theorem R0s.reverse {vs : List V} {ds : List PyData} (h : R0s K g H vs ds) : R0s K g H vs.reverse ds.reverse := by
  induction h using R0s.rec (motive_1 := fun _ _ _ => True) with
  | non => trivial
  | bl b => trivial
  | int i => trivial
  | str x => trivial
  | lst _ _ _ _ => trivial
  | tup _ _ _ => trivial
  | nil => exact .nil
  | cons h t _ ih => rw [List.reverse_cons, List.reverse_cons]; exact R0s.append ih (.cons h .nil)
theorem R0s.set : ∀ {vs : List V} {ds : List PyData} {v : V} {d : PyData} (i : Nat), R0s K g H vs ds → R0 K g H v d → R0s K g H (vs.set i v) (ds.set i d)
  | _, _, _, _, _, .nil, _ => .nil
  | _, _, _, _, 0, .cons _ t, r => .cons r t
  | _, _, _, _, i + 1, .cons q t, r => .cons q (R0s.set i t r)
theorem R0s.rep {vs : List V} {ds : List PyData} (h : R0s K g H vs ds) : ∀ k : Nat, R0s K g H (List.replicate k vs).flatten (List.replicate k ds).flatten
  | 0 => .nil
  | k + 1 => by
    rw [List.replicate_succ, List.replicate_succ, List.flatten_cons, List.flatten_cons]
    exact R0s.append h (R0s.rep h k)
theorem R0s.int_inv : ∀ {ns : List Int} {vs : List V}, R0s K g H vs (ns.map PyData.int) → vs = ns.map V.int
  | [], _, h => by cases h; rfl
  | n :: ns, _, h => by
    cases h with
    | cons h t =>
      cases h
      rw [R0s.int_inv t]
      rfl
theorem R0s.bl_inv : ∀ {ns : List Bool} {vs : List V}, R0s K g H vs (ns.map PyData.bool) → vs = ns.map V.bl
  | [], _, h => by cases h; rfl
  | n :: ns, _, h => by
    cases h with
    | cons h t =>
      cases h
      rw [R0s.bl_inv t]
      rfl
theorem R0s.ints : ∀ (ns : List Int), R0s K g H (ns.map V.int) (ns.map PyData.int)
  | [] => .nil
  | n :: ns => .cons (.int n) (R0s.ints ns)
end
/-! ### the pure side -/
/-- a value: data, or a cell (a list that may be changed) -/
inductive Wv where
  | d (x : PyData)
  | r (n : Nat)
  | s (xs : List PyData)
inductive Cell where
  | lst (xs : List PyData)
  | dic (t : Bool) (kvs : List (PyData × PyData))
  | dead
abbrev Sto := List Cell
abbrev Env' := List (Option Wv)
abbrev M (α : Type) := Env' → Sto → Option (α × Sto)
/-- a key of a dict -/
def keyD : Key → PyData
  | .inl i => .int i
  | .inr x => .str x
section
variable (K : PySem.W.Frag) (g : G) (H : Hp)
def RW (v : V) : Wv → Prop
  | .d x => R0 K g H v x
  | .r n => ∃ a, v = .ref a ∧ (g.al[n]? = some (some a) ∨ g.al[n]? = some none)
  | .s ds => ∃ a vs, v = .ref a ∧ ((Rd H a (.lst vs) ∧ g.fr a) ∨ ∀ H' : Hp, SqL K H' a vs) ∧ R0s K g H vs ds
def CellOk (a : Addr) : Cell → Prop
  | .lst ds => ∃ xs, H a = some (.lst xs) ∧ R0s K g H xs ds
  | .dic b kvs => (b = false ∧ ∃ ps : List (Key × V), H a = some (.dK ps) ∧ Paired (fun (p : Key × V) (q : PyData × PyData) => keyD p.1 = q.1 ∧ R0 K g H p.2 q.2) ps kvs) ∨
    b = true ∧ ∃ ps : List (List Key × V), H a = some (.dT ps) ∧ Paired (fun (p : List Key × V) (q : PyData × PyData) => .tuple (p.1.map keyD) = q.1 ∧ R0 K g H p.2 q.2) ps kvs
  | .dead => False
structure RS (S : Sto) : Prop where
  len : g.al.length = S.length
  nd : ∀ (n m : Nat) (a : Addr), g.al[n]? = some (some a) → g.al[m]? = some (some a) → n = m
  ok : ∀ (n : Nat) (c : Cell), S[n]? = some c → (g.al[n]? = some none ∧ c = .dead) ∨ ∃ a, g.al[n]? = some (some a) ∧ CellOk K g H a c
  hid : ∀ a ∈ g.hid, H a ≠ none ∧ some a ∉ g.al
abbrev RE (σ : L2.St) (ρ : Env') : Prop := Paired (fun (o : Option V) (p : Option Wv) => ∀ w, p = some w → ∃ v, o = some v ∧ RW K g H v w) σ ρ
/-- several values -/
abbrev RWs : List V → List Wv → Prop := Paired fun v w => RW K g H v w
/-- what is true of every state that may come: the cells hold S' -/
def Fin (S' : Sto) (P : G → Hp → Prop) : Prop := ∀ g' H', Ext g H g' H' → RS K g' H' S' → P g' H'
end
section
variable {K : PySem.W.Frag} {g g' : G} {H H' : Hp}
theorem RW.mo (x : Mo g H g' H') {v : V} {w : Wv} (h : RW K g H v w) : RW K g' H' v w := by
  cases w with
  | d d => exact R0.mo x h
  | r n =>
    obtain ⟨a, e, h⟩ := h
    refine ⟨a, e, ?_⟩
    rcases h with h | h
    · exact x.live n a h
    · exact .inr (x.dead n h)
  | s ds =>
    obtain ⟨a, vs, e, h, t⟩ := h
    refine ⟨a, vs, e, ?_, t.mo x⟩
    rcases h with ⟨h, f⟩ | h
    · exact .inl ⟨Rd.ext x h f, f.ext x (Rd.some h)⟩
    · exact .inr h
theorem RE.mo (x : Mo g H g' H') {σ : L2.St} {ρ : Env'} (h : RE K g H σ ρ) : RE K g' H' σ ρ :=
  Paired.mapP h fun o p q w e => let ⟨v, e, r⟩ := q w e; ⟨v, e, r.mo x⟩
theorem RW.mono (x : Ext g H g' H') {v : V} {w : Wv} (h : RW K g H v w) : RW K g' H' v w := h.mo x.mo
theorem RE.mono (x : Ext g H g' H') {σ : L2.St} {ρ : Env'} (h : RE K g H σ ρ) : RE K g' H' σ ρ := RE.mo x.mo h
theorem RWs.mono (x : Ext g H g' H') {vs : List V} {ws : List Wv} (h : RWs K g H vs ws) : RWs K g' H' vs ws := Paired.mapP h fun v w q => q.mono x
theorem RE.get {σ : L2.St} {ρ : Env'} (h : RE K g H σ ρ) : ∀ {i : Nat} {w : Wv}, ρ[i]? = some (some w) → ∃ v, σ[i]? = some (some v) ∧ RW K g H v w := by
  induction h with
  | nil => intro i w e; simp at e
  | cons r _ ih =>
    intro i w e
    cases i with
    | zero =>
      simp only [List.getElem?_cons_zero, Option.some.injEq] at e
      obtain ⟨v, e1, e2⟩ := r w e
      exact ⟨v, by simp [e1], e2⟩
    | succ i =>
      obtain ⟨v, e1, e2⟩ := ih (by simpa using e)
      exact ⟨v, by simpa using e1, e2⟩
theorem RE.set {σ : L2.St} {ρ : Env'} (h : RE K g H σ ρ) {v : V} {w : Wv} (r : RW K g H v w) (i : Nat) : RE K g H (σ.set i (some v)) (ρ.set i (some w)) := by
  induction h generalizing i with
  | nil => exact .nil
  | cons q _ ih =>
    cases i with
    | zero => exact .cons (fun w' e => by cases e; exact ⟨v, rfl, r⟩) ‹_›
    | succ i => exact .cons q (ih i)
theorem Fin.mono {S : Sto} {P : G → Hp → Prop} (x : Ext g H g' H') (h : Fin K g H S P) : Fin K g' H' S P := fun g2 H2 y r => h g2 H2 (x.trans y) r
end
section
variable (K : PySem.W.Frag)
def tM (m : M Wv) : TE := fun σ H Q => ∃ g S ρ w S', RS K g H S ∧ RE K g H σ ρ ∧ m ρ S = some (w, S') ∧ Fin K g H S' fun g' H' => ∀ v, RW K g' H' v w → Q v H'
def tB' (m : M Bool) : TT := fun σ H Q => ∃ g S ρ w S', RS K g H S ∧ RE K g H σ ρ ∧ m ρ S = some (w, S') ∧ Fin K g H S' fun _ H' => Q w H'
def tA' (m : M (List Wv)) : TA := fun σ H Q => ∃ g S ρ w S', RS K g H S ∧ RE K g H σ ρ ∧ m ρ S = some (w, S') ∧ Fin K g H S' fun g' H' => ∀ v, RWs K g' H' v w → Q v H'
/-- how a statement ends -/
inductive Fl where
  | nx | bk | ct
  | rt (w : Wv)
abbrev MS := Env' → Sto → Option (Fl × Env' × Sto)
def EndW (D : Ends) (ρ' : Env') (g' : G) (H' : Hp) : Fl → Prop
  | .nx => ∀ σ', RE K g' H' σ' ρ' → D.nx σ' H'
  | .bk => ∀ σ', RE K g' H' σ' ρ' → D.bk σ' H'
  | .ct => ∀ σ', RE K g' H' σ' ρ' → D.ct σ' H'
  | .rt w => ∀ v, RW K g' H' v w → D.rt v H'
def tS (m : MS) : TS := fun D σ H => ∃ g S ρ f ρ' S', RS K g H S ∧ RE K g H σ ρ ∧ m ρ S = some (f, ρ', S') ∧ Fin K g H S' fun g' H' => EndW K D ρ' g' H' f
end
abbrev AE (X : Cx) (e : Expr) (m : M Wv) : Prop := PE X e (tM X.K m)
abbrev AT (X : Cx) (e : Expr) (m : M Bool) : Prop := PT X e (tB' X.K m)
abbrev AW (X : Cx) (e : Expr) (m : M Bool) : Prop := PW X e (tB' X.K m)
abbrev AA (X : Cx) (es : List Expr) (m : M (List Wv)) : Prop := PA X es (tA' X.K m)
abbrev AS (X : Cx) (st : Stmt) (m : MS) : Prop := PS X st (tS X.K m)
abbrev ASs (X : Cx) (st : List Stmt) (m : MS) : Prop := PSs X st (tS X.K m)
section
variable {X : Cx}
theorem _root_.L2.PE.imp {e : Expr} {t t' : TE} (h : PE X e t) (k : ∀ σ H Q, t' σ H Q → t σ H Q) : PE X e t' := ⟨fun pins s σ H Q I w => h.run pins s σ H Q I (k _ _ _ w)⟩
theorem _root_.L2.PT.imp {e : Expr} {t t' : TT} (h : PT X e t) (k : ∀ σ H Q, t' σ H Q → t σ H Q) : PT X e t' := ⟨fun pins s σ H Q I w => h.run pins s σ H Q I (k _ _ _ w)⟩
theorem _root_.L2.PW.imp {e : Expr} {t t' : TT} (h : PW X e t) (k : ∀ σ H Q, t' σ H Q → t σ H Q) : PW X e t' := ⟨fun wh pins s σ H Q I w => h.run wh pins s σ H Q I (k _ _ _ w)⟩
theorem _root_.L2.PA.imp {e : List Expr} {t t' : TA} (h : PA X e t) (k : ∀ σ H Q, t' σ H Q → t σ H Q) : PA X e t' := ⟨fun pos pins s σ H Q I w => h.run pos pins s σ H Q I (k _ _ _ w)⟩
theorem _root_.L2.PS.imp {e : Stmt} {t t' : TS} (h : PS X e t) (k : ∀ D σ H, t' D σ H → t D σ H) : PS X e t' := ⟨fun pins s σ H D I w => h.run pins s σ H D I (k _ _ _ w)⟩
theorem _root_.L2.PSs.imp {e : List Stmt} {t t' : TS} (h : PSs X e t) (k : ∀ D σ H, t' D σ H → t D σ H) : PSs X e t' := ⟨fun pins s σ H D I w => h.run pins s σ H D I (k _ _ _ w)⟩
end
end Ev
set_option linter.all false
set_option maxRecDepth 100000
set_option maxHeartbeats 4000000
/-! Ev2: expressions: names, constants, operators, comparisons, tests. -/
namespace Ev
open PySem PySem.Spec PyProof.Rows L2
/-! ### reading at the top -/
def rd (S : Sto) : Wv → Option PyData
  | .d x => some x
  | .r n => match S[n]? with
    | some (.lst xs) => some (.list xs)
    | _ => none
  | .s _ => none
def RT (K : PySem.W.Frag) (g : G) (H : Hp) (v : V) (d : PyData) : Prop := R0 K g H v d ∨ ∃ a xs ds, v = .ref a ∧ d = .list ds ∧ H a = some (.lst xs) ∧ R0s K g H xs ds
section
variable {K : PySem.W.Frag} {g g' : G} {H H' : Hp} {S : Sto}
theorem rd_rt (rs : RS K g H S) {v : V} {w : Wv} {d : PyData} (r : RW K g H v w) (e : rd S w = some d) : RT K g H v d := by
  cases w with
  | d x => cases e; exact .inl r
  | r n =>
    obtain ⟨a, rfl, ha⟩ := r
    have e : (match S[n]? with
      | some (.lst xs) => some (PyData.list xs)
      | _ => none) = some d := e
    split at e
    · rename_i xs hx
      cases e
      rcases rs.ok n _ hx with ⟨_, z⟩ | ⟨a', ha', vs, hv, t⟩
      · cases z
      · have : a' = a := by
          rcases ha with ha | ha
          · rw [ha'] at ha; exact (Option.some.inj (Option.some.inj ha))
          · rw [ha'] at ha; cases Option.some.inj ha
        subst this
        exact .inr ⟨_, _, _, rfl, rfl, hv, t⟩
    · cases e
  | s ds => cases e
theorem RT.mono0 (x : Ext g H g' H') {v : V} {d : PyData} (h : R0 K g H v d) : RT K g' H' v d := .inl (h.mono x)
theorem RT.dp {v : V} {d : PyData} (h : RT K g H v d) : Dp K H v d := by
  rcases h with h | ⟨a, xs, ds, rfl, rfl, h, t⟩
  · exact h.dp
  · exact .lst (.inl (.inl h)) (R0s.dp t)
theorem RT.plain {v : V} {d : PyData} (h : RT K g H v d) : d.plain = true := by
  rcases h with h | ⟨a, xs, ds, rfl, rfl, h, t⟩
  · exact h.plain
  · rw [PyData.plain]; exact R0s.plain t
theorem RT.list {v : V} {ds : List PyData} (h : RT K g H v (.list ds)) : ∃ a xs, v = .ref a ∧ H a = some (.lst xs) ∧ R0s K g H xs ds := by
  rcases h with h | ⟨a, xs, ds', rfl, e, h, t⟩
  · cases h with
    | lst h f t => exact ⟨_, _, rfl, h, t⟩
  · cases e
    exact ⟨_, _, rfl, h, t⟩
theorem RT.tup {v : V} {ds : List PyData} (h : RT K g H v (.tuple ds)) : ∃ a xs, v = .ref a ∧ SqT K H a xs ∧ R0s K g H xs ds := by
  rcases h with h | ⟨a, xs, ds', rfl, e, h, t⟩
  · cases h with
    | tup h t => exact ⟨_, _, rfl, .inl (.inl h), t⟩
  · cases e
theorem RT.int {v : V} {i : Int} (h : RT K g H v (.int i)) : v = .int i := by
  rcases h with h | ⟨a, xs, ds', rfl, e, h, t⟩
  · cases h; rfl
  · cases e
theorem RT.bl {v : V} {i : Bool} (h : RT K g H v (.bool i)) : v = .bl i := by
  rcases h with h | ⟨a, xs, ds', rfl, e, h, t⟩
  · cases h; rfl
  · cases e
theorem RT.str {v : V} {i : Str} (h : RT K g H v (.str i)) : v = .str i := by
  rcases h with h | ⟨a, xs, ds', rfl, e, h, t⟩
  · cases h; rfl
  · cases e
theorem RT.none_iff {v : V} {d : PyData} (h : RT K g H v d) : v = .non ↔ d = .none := by
  rcases h with h | ⟨a, xs, ds', rfl, rfl, h, t⟩
  · cases h <;> simp
  · simp
/-- the heap as it was, or with one new object -/
def Grown (H H' : Hp) : Prop := H' = H ∨ ∃ p o, H p = none ∧ H' = upd H p o
theorem Grown.ext (x : Grown H H') : Ext g H g H' := by
  rcases x with rfl | ⟨p, o, h, rfl⟩
  · exact .refl
  · exact .upd h
theorem CellOk.mo (x : Mo g H g' H') {a : Addr} (keep : ∀ o, H a = some o → H' a = some o) {c : Cell} (h : CellOk K g H a c) : CellOk K g' H' a c := by
  cases c with
  | lst ds => obtain ⟨xs, h, t⟩ := h; exact ⟨xs, keep _ h, t.mo x⟩
  | dic b kvs =>
    rcases h with ⟨hb, ps, h, t⟩ | ⟨hb, ps, h, t⟩
    · exact .inl ⟨hb, ps, keep _ h, Paired.mapP t fun p q z => ⟨z.1, z.2.mo x⟩⟩
    · exact .inr ⟨hb, ps, keep _ h, Paired.mapP t fun p q z => ⟨z.1, z.2.mo x⟩⟩
  | dead => exact h.elim
theorem CellOk.mono (x : Ext g H g' H') {a : Addr} (keep : ∀ o, H a = some o → H' a = some o) {c : Cell} (h : CellOk K g H a c) : CellOk K g' H' a c := h.mo x.mo keep
theorem RS.keep (rs : RS K g H S) (x : Ext g H g H') (k : ∀ a o, H a = some o → H' a = some o) : RS K g H' S where
  len := rs.len
  nd := rs.nd
  ok := fun n c e => (rs.ok n c e).elim .inl fun ⟨a, h1, h2⟩ => .inr ⟨a, h1, h2.mono x (k a)⟩
  hid := fun a m => by
    refine ⟨fun z => ?_, (rs.hid a m).2⟩
    obtain ⟨h, _⟩ := rs.hid a m
    cases q : H a with
    | none => exact h q
    | some o => rw [k a o q] at z; cases z
theorem RS.grown (rs : RS K g H S) (x : Grown H H') : RS K g H' S := by
  refine rs.keep x.ext fun a o e => ?_
  rcases x with rfl | ⟨p, u, h, rfl⟩
  · exact e
  · rw [upd_ne (ne_of_none e h)]; exact e
/-- a new tuple, list -/
theorem R0.newT {p : Addr} {xs : List V} {ds : List PyData} (h : H p = none) (t : R0s K g H xs ds) : R0 K g (upd H p (.tup xs)) (.ref p) (.tuple ds) := .tup upd_same (t.mono (.upd h))
theorem RS.fresh (rs : RS K g H S) {p : Addr} (h : H p = none) : g.fr p := by
  refine ⟨fun m => ?_, fun m => (rs.hid p m).1 h⟩
  obtain ⟨n, e⟩ := List.mem_iff_getElem?.mp m
  have hn : n < S.length := by rw [← rs.len]; exact (List.getElem?_eq_some_iff.mp e).1
  rcases rs.ok n _ (List.getElem?_eq_getElem hn) with ⟨z, _⟩ | ⟨a, ha, c⟩
  · rw [e] at z; cases Option.some.inj z
  · rw [e] at ha
    have ha : p = a := Option.some.inj (Option.some.inj ha)
    subst ha
    cases q : S[n] with
    | lst ds => rw [q] at c; obtain ⟨xs, z, _⟩ := c; rw [h] at z; cases z
    | dic b ds => rw [q] at c; rcases c with ⟨_, xs, z, _⟩ | ⟨_, xs, z, _⟩ <;> (rw [h] at z; cases z)
    | dead => rw [q] at c; exact c
theorem R0.newL (rs : RS K g H S) {p : Addr} {xs : List V} {ds : List PyData} (h : H p = none) (t : R0s K g H xs ds) : R0 K g (upd H p (.lst xs)) (.ref p) (.list ds) := .lst upd_same (rs.fresh h) (t.mono (.upd h))
end
/-! ### names and constants -/
def getV (ρ : Env') (i : Nat) : Option Wv := (ρ[i]?).join
def mVar (i : Nat) : M Wv := fun ρ S => (getV ρ i).map fun w => (w, S)
def mC (d : PyData) : M Wv := fun _ S => some (.d d, S)
section
variable {X : Cx} {a b : Expr} {ma mb : M Wv} {pos : Pos}
theorem ae_var (i : Nat) {x : Str} (hN : X.N[i]? = some x := by rfl) (hv : Vis X.env.scope x := by first | exact Or.inl rfl | exact Or.inr (Or.inl rfl) | exact Or.inr (Or.inr rfl)) (hd : (x == ("__debug__" : Str)) = false := by decide)
    (hcd : (x == ("__classdict__" : Str)) = false := by decide) : AE X (.Name x pos) (mVar i) :=
  (pe_var hN hv hd hcd).imp fun σ H Q ⟨g, S, ρ, w, S', rs, re, e, fin⟩ => by
    unfold mVar getV at e
    cases q : ρ[i]? with
    | none => rw [q] at e; cases e
    | some o =>
      rw [q] at e
      cases o with
      | none => cases e
      | some w' =>
        cases e
        obtain ⟨v, h1, h2⟩ := re.get q
        exact ⟨v, h1, fin g H .refl rs v h2⟩
theorem ae_of_c {e : Expr} {v : V} {d : PyData} (h : PE X e (tC v)) (r : ∀ g H, R0 X.K g H v d) : AE X e (mC d) :=
  h.imp fun σ H Q ⟨g, S, ρ, w, S', rs, re, e, fin⟩ => by
    cases e
    exact fin g H .refl rs v (r g H)
theorem ae_int {i j} : AE X (.Constant (.int i) j pos) (mC (.int i)) := ae_of_c pe_int fun _ _ => .int i
theorem ae_bl {i j} : AE X (.Constant (.bool i) j pos) (mC (.bool i)) := ae_of_c pe_bl fun _ _ => .bl i
theorem ae_non {j} : AE X (.Constant .none j pos) (mC .none) := ae_of_c pe_non fun _ _ => .non
theorem ae_str {i j} : AE X (.Constant (.str i) j pos) (mC (.str i)) := ae_of_c pe_str fun _ _ => .str i
/-- a global int -/
theorem ae_globI {x : Str} {i : Int} {t : Tok} (hg : Gl X x) (hm : X.mg x = some (.int i t)) (hd : (x == ("__debug__" : Str)) = false := by decide) : AE X (.Name x pos) (mC (.int i)) := ae_of_c (pe_glob (v := .int i) hg hm ⟨t, rfl⟩ hd) fun _ _ => .int i
theorem ae_globS {x : Str} {i : Str} {t : Tok} (hg : Gl X x) (hm : X.mg x = some (.str i t)) (hd : (x == ("__debug__" : Str)) = false := by decide) : AE X (.Name x pos) (mC (.str i)) := ae_of_c (pe_glob (v := .str i) hg hm ⟨t, rfl⟩ hd) fun _ _ => .str i
/-! ### operators -/
abbrev F2 := PyData → PyData → Option PyData
def OpD (K : PySem.W.Frag) (r : R2) (f : F2) : Prop := ∀ (g : G) (H : Hp) (S : Sto) (x y : V) (dx dy dz : PyData) (Q : VK), RS K g H S → RT K g H x dx → RT K g H y dy → f dx dy = some dz →
  (∀ v H', Grown H H' → R0 K g H' v dz → Q v H') → r x y H Q
def mBin (f : F2) (a b : M Wv) : M Wv := fun ρ S => (a ρ S).bind fun p => (b ρ p.2).bind fun q => (rd q.2 p.1).bind fun x => (rd q.2 q.1).bind fun y => (f x y).map fun z => (.d z, q.2)
theorem bin_run {K : PySem.W.Frag} {ta tb : TE} {r : R2} {f : F2} (hd : OpD K r f) {σ : L2.St} {H : Hp} {Q : VK} (h : tM K (mBin f ma mb) σ H Q) : tOp r (tM K ma) (tM K mb) σ H Q := by
  obtain ⟨g, S, ρ, w, S', rs, re, e, fin⟩ := h
  unfold mBin at e
  simp only [Option.bind_eq_some_iff, Option.map_eq_some_iff] at e
  obtain ⟨⟨x, S1⟩, e1, ⟨y, S2⟩, e2, dx, e3, dy, e4, dz, e5, e6⟩ := e
  cases e6
  refine ⟨g, S, ρ, x, S1, rs, re, e1, fun g1 H1 x1 rs1 v rv => ⟨g1, S1, ρ, y, S2, rs1, re.mono x1, e2, fun g2 H2 x2 rs2 u ru => ?_⟩⟩
  exact hd g2 H2 S2 v u dx dy dz Q rs2 (rd_rt rs2 (rv.mono x2) e3) (rd_rt rs2 ru e4) e5 fun v' H' gr r0 => fin g2 H' ((x1.trans x2).trans gr.ext) (rs2.grown gr) v' r0
theorem ae_op {op : Operator} {r : R2} {f : F2} (o : OpR X (binaryOp op) r ∧ OpD X.K r f) (ha : AE X a ma) (hb : AE X b mb) : AE X (.BinOp a op b pos) (mBin f ma mb) :=
  (pe_op o.1 ha hb).imp fun _ _ _ h => bin_run (ta := tM X.K ma) (tb := tM X.K mb) o.2 h
theorem ae_cmp {op : CmpOp} {r : R2} {f : F2} (o : OpR X (compareOp op) r ∧ OpD X.K r f) (ha : AE X a ma) (hb : AE X b mb) (hm : behindInMarks op b = false := by rfl) : AE X (.Compare a [op] [b] pos) (mBin f ma mb) :=
  (pe_cmpR o.1 ha hb hm).imp fun _ _ _ h => bin_run (ta := tM X.K ma) (tb := tM X.K mb) o.2 h
/-- a value that must be a bool -/
def mBool (m : M Wv) : M Bool := fun ρ S => (m ρ S).bind fun p => match p.1 with
  | .d (.bool b) => some (b, p.2)
  | _ => none
theorem at_cmp {op : CmpOp} {r : R2} {f : F2} (o : OpR X (compareOp op) r ∧ OpD X.K r f) (ha : AE X a ma) (hb : AE X b mb) (hm : behindInMarks op b = false := by rfl) : AT X (.Compare a [op] [b] pos) (mBool (mBin f ma mb)) :=
  (pt_cmpR o.1 ha hb hm).imp fun σ H Q ⟨g, S, ρ, w, S', rs, re, e, fin⟩ => by
    unfold mBool at e
    simp only [Option.bind_eq_some_iff] at e
    obtain ⟨⟨x, S1⟩, e1, e2⟩ := e
    split at e2
    · rename_i c ec
      cases e2
      have ec : x = .d (.bool w) := ec
      refine bin_run (ta := tM X.K ma) (tb := tM X.K mb) o.2 ⟨g, S, ρ, x, S1, rs, re, e1, fun g' H' x' rs' v rv => ?_⟩
      subst ec
      cases (rv : R0 X.K g' H' v (.bool w))
      exact ⟨_, rfl, fin g' H' x' rs'⟩
    · cases e2
/-- a value that is a bool, as a test -/
theorem at_val {e : Expr} {m : M Wv} (h : AE X e m) (he : ∀ whole, isTrue e X.env whole = (do let v ← whole; standAt e.pos; holding [v] (truthy v)) := by intro _; rfl) : AT X e (mBool m) :=
  (pt_val h he).imp fun σ H Q ⟨g, S, ρ, w, S', rs, re, e, fin⟩ => by
    unfold mBool at e
    simp only [Option.bind_eq_some_iff] at e
    obtain ⟨⟨x, S1⟩, e1, e2⟩ := e
    split at e2
    · rename_i c ec
      cases e2
      have ec : x = .d (.bool w) := ec
      refine ⟨g, S, ρ, x, S1, rs, re, e1, fun g' H' x' rs' v rv => ?_⟩
      subst ec
      cases (rv : R0 X.K g' H' v (.bool w))
      exact ⟨_, rfl, fin g' H' x' rs'⟩
    · cases e2
/-! ### and, or, not, if -/
variable {mA mB : M Bool} {rest : List Expr}
def mAnd (a b : M Bool) : M Bool := fun ρ S => (a ρ S).bind fun p => if p.1 then b ρ p.2 else some (false, p.2)
def mOr (a b : M Bool) : M Bool := fun ρ S => (a ρ S).bind fun p => if p.1 then some (true, p.2) else b ρ p.2
def mNot (a : M Bool) : M Bool := fun ρ S => (a ρ S).map fun p => (!p.1, p.2)
theorem aw_and1 (ha : AT X a mA) : AW X (.BoolOp .And [a] pos) mA := pw_and1 ha
theorem aw_or1 (ha : AT X a mA) : AW X (.BoolOp .Or [a] pos) mA := pw_or1 ha
theorem aw_and (ha : AT X a mA) (hb : AW X (.BoolOp .And (b :: rest) pos) mB) : AW X (.BoolOp .And (a :: b :: rest) pos) (mAnd mA mB) :=
  PW.imp (pw_and ha hb) fun σ H Q ⟨g, S, ρ, w, S', rs, re, e, fin⟩ => by
    unfold mAnd at e
    simp only [Option.bind_eq_some_iff] at e
    obtain ⟨⟨x, S1⟩, e1, e2⟩ := e
    refine ⟨g, S, ρ, x, S1, rs, re, e1, fun g1 H1 x1 rs1 => ?_⟩
    cases x with
    | true => exact ⟨g1, S1, ρ, w, S', rs1, re.mono x1, e2, fin.mono x1⟩
    | false => cases e2; exact fin g1 H1 x1 rs1
theorem aw_or (ha : AT X a mA) (hb : AW X (.BoolOp .Or (b :: rest) pos) mB) : AW X (.BoolOp .Or (a :: b :: rest) pos) (mOr mA mB) :=
  PW.imp (pw_or ha hb) fun σ H Q ⟨g, S, ρ, w, S', rs, re, e, fin⟩ => by
    unfold mOr at e
    simp only [Option.bind_eq_some_iff] at e
    obtain ⟨⟨x, S1⟩, e1, e2⟩ := e
    refine ⟨g, S, ρ, x, S1, rs, re, e1, fun g1 H1 x1 rs1 => ?_⟩
    cases x with
    | false => exact ⟨g1, S1, ρ, w, S', rs1, re.mono x1, e2, fin.mono x1⟩
    | true => cases e2; exact fin g1 H1 x1 rs1
theorem at_w {e : Expr} {m : M Bool} (h : AW X e m) : AT X e m := PW.pt h
theorem at_not (ha : AT X a mA) : AT X (.UnaryOp .Not a pos) (mNot mA) :=
  (pt_not ha).imp fun σ H Q ⟨g, S, ρ, w, S', rs, re, e, fin⟩ => by
    unfold mNot at e
    simp only [Option.map_eq_some_iff] at e
    obtain ⟨⟨x, S1⟩, e1, e2⟩ := e
    cases e2
    exact ⟨g, S, ρ, x, S1, rs, re, e1, fin⟩
/-- as values -/
def mAndV (a b : M Wv) : M Wv := fun ρ S => (mBool a ρ S).bind fun p => if p.1 then b ρ p.2 else some (.d (.bool false), p.2)
def mOrV (a b : M Wv) : M Wv := fun ρ S => (mBool a ρ S).bind fun p => if p.1 then some (.d (.bool true), p.2) else b ρ p.2
def mNotV (a : M Wv) : M Wv := fun ρ S => (mBool a ρ S).map fun p => (.d (.bool (!p.1)), p.2)
theorem ae_one {op} (h : AE X a ma) : AE X (.BoolOp op [a] pos) ma := pe_one h
theorem mBool_some {m : M Wv} {ρ : Env'} {S : Sto} {p : Bool × Sto} (e : mBool m ρ S = some p) : m ρ S = some (.d (.bool p.1), p.2) := by
  unfold mBool at e
  simp only [Option.bind_eq_some_iff] at e
  obtain ⟨⟨x, S1⟩, e1, e2⟩ := e
  split at e2
  · rename_i c ec
    cases e2
    have ec : x = .d (.bool c) := ec
    rw [e1, ec]
  · cases e2
theorem ae_and (ha : AE X a ma) (hb : AE X (.BoolOp .And (b :: rest) pos) mb) : AE X (.BoolOp .And (a :: b :: rest) pos) (mAndV ma mb) :=
  PE.imp (pe_and ha hb) fun σ H Q ⟨g, S, ρ, w, S', rs, re, e, fin⟩ => by
    unfold mAndV at e
    simp only [Option.bind_eq_some_iff] at e
    obtain ⟨⟨x, S1⟩, e1, e2⟩ := e
    refine ⟨g, S, ρ, _, S1, rs, re, mBool_some e1, fun g1 H1 x1 rs1 v rv => ?_⟩
    cases (rv : R0 X.K g1 H1 v (.bool x))
    refine ⟨x, rfl, ?_⟩
    cases x with
    | true => exact ⟨g1, S1, ρ, w, S', rs1, re.mono x1, e2, fin.mono x1⟩
    | false => cases e2; exact fin g1 H1 x1 rs1 _ (.bl false)
theorem ae_or (ha : AE X a ma) (hb : AE X (.BoolOp .Or (b :: rest) pos) mb) : AE X (.BoolOp .Or (a :: b :: rest) pos) (mOrV ma mb) :=
  PE.imp (pe_or ha hb) fun σ H Q ⟨g, S, ρ, w, S', rs, re, e, fin⟩ => by
    unfold mOrV at e
    simp only [Option.bind_eq_some_iff] at e
    obtain ⟨⟨x, S1⟩, e1, e2⟩ := e
    refine ⟨g, S, ρ, _, S1, rs, re, mBool_some e1, fun g1 H1 x1 rs1 v rv => ?_⟩
    cases (rv : R0 X.K g1 H1 v (.bool x))
    refine ⟨x, rfl, ?_⟩
    cases x with
    | false => exact ⟨g1, S1, ρ, w, S', rs1, re.mono x1, e2, fin.mono x1⟩
    | true => cases e2; exact fin g1 H1 x1 rs1 _ (.bl true)
theorem ae_not (ha : AE X a ma) : AE X (.UnaryOp .Not a pos) (mNotV ma) :=
  (pe_not ha).imp fun σ H Q ⟨g, S, ρ, w, S', rs, re, e, fin⟩ => by
    unfold mNotV at e
    simp only [Option.map_eq_some_iff] at e
    obtain ⟨⟨x, S1⟩, e1, e2⟩ := e
    cases e2
    refine ⟨g, S, ρ, _, S1, rs, re, mBool_some e1, fun g1 H1 x1 rs1 v rv => ?_⟩
    cases (rv : R0 X.K g1 H1 v (.bool x))
    exact ⟨x, rfl, fin g1 H1 x1 rs1 _ (.bl _)⟩
def mIf (c : M Bool) (a b : M Wv) : M Wv := fun ρ S => (c ρ S).bind fun p => if p.1 then a ρ p.2 else b ρ p.2
theorem ae_if {c : Expr} {mc : M Bool} (hc : AT X c mc) (ha : AE X a ma) (hb : AE X b mb) : AE X (.IfExp c a b pos) (mIf mc ma mb) :=
  (pe_ifExp hc ha hb).imp fun σ H Q ⟨g, S, ρ, w, S', rs, re, e, fin⟩ => by
    unfold mIf at e
    simp only [Option.bind_eq_some_iff] at e
    obtain ⟨⟨x, S1⟩, e1, e2⟩ := e
    refine ⟨g, S, ρ, x, S1, rs, re, e1, fun g1 H1 x1 rs1 => ?_⟩
    cases x with
    | true => exact ⟨g1, S1, ρ, w, S', rs1, re.mono x1, e2, fin.mono x1⟩
    | false => exact ⟨g1, S1, ρ, w, S', rs1, re.mono x1, e2, fin.mono x1⟩
/-! ### argument lists, displays -/
def mNil : M (List Wv) := fun _ S => some ([], S)
def mCons (a : M Wv) (r : M (List Wv)) : M (List Wv) := fun ρ S => (a ρ S).bind fun p => (r ρ p.2).map fun q => (p.1 :: q.1, q.2)
variable {es : List Expr} {mr : M (List Wv)} {e : Expr}
theorem aa_nil : AA X [] mNil := pa_nil.imp fun σ H Q ⟨g, S, ρ, w, S', rs, re, e, fin⟩ => by
  cases e
  exact fin g H .refl rs [] .nil
theorem aa_cons (ha : AE X e ma) (hr : AA X es mr) (hs : starEach (e :: es) X.env = (false, eval e X.env) :: starEach es X.env := by rfl) : AA X (e :: es) (mCons ma mr) :=
  PA.imp (pa_cons ha hr hs) fun σ H Q ⟨g, S, ρ, w, S', rs, re, e, fin⟩ => by
    unfold mCons at e
    simp only [Option.bind_eq_some_iff, Option.map_eq_some_iff] at e
    obtain ⟨⟨x, S1⟩, e1, ⟨xs, S2⟩, e2, e3⟩ := e
    cases e3
    exact ⟨g, S, ρ, x, S1, rs, re, e1, fun g1 H1 x1 rs1 v rv => ⟨g1, S1, ρ, xs, S2, rs1, re.mono x1, e2, fun g2 H2 x2 rs2 vs rvs => fin g2 H2 (x1.trans x2) rs2 (v :: vs) (.cons (rv.mono x2) rvs)⟩⟩
/-- all must be data -/
def datas : List Wv → Option (List PyData)
  | [] => some []
  | .d x :: r => (datas r).map (x :: ·)
  | .r _ :: _ => none
  | .s _ :: _ => none
theorem datas_rs {K : PySem.W.Frag} {g : G} {H : Hp} : ∀ {vs : List V} {ws : List Wv} {ds : List PyData}, RWs K g H vs ws → datas ws = some ds → R0s K g H vs ds
  | _, _, _, .nil, e => by cases e; exact .nil
  | _, .d x :: r, _, .cons h t, e => by
    unfold datas at e
    simp only [Option.map_eq_some_iff] at e
    obtain ⟨ds, e1, e2⟩ := e
    cases e2
    exact .cons h (datas_rs t e1)
  | _, .r _ :: _, _, .cons _ _, e => by cases e
  | _, .s _ :: _, _, .cons _ _, e => by cases e
/-- the number of items of a list that stays within the bound -/
def few (n : Nat) : Bool := Nat.ble n 1000000
theorem few_line {n : Nat} (h : few n = true) : n ≤ sizeLine := by
  have := Nat.le_of_ble_eq_true h
  rw [sizeLine_eq]; omega
theorem few_lt {n : Nat} (h : few n = true) : n < sizeLine := by
  have := Nat.le_of_ble_eq_true h
  rw [sizeLine_eq]; omega
def mTup (m : M (List Wv)) : M Wv := fun ρ S => (m ρ S).bind fun p => (datas p.1).bind fun ds => if few ds.length then some (.d (.tuple ds), p.2) else none
def mLst (m : M (List Wv)) : M Wv := fun ρ S => (m ρ S).bind fun p => (datas p.1).bind fun ds => if few ds.length then some (.d (.list ds), p.2) else none
theorem ae_tup {x1} (h : AA X es mr) : AE X (.Tuple es x1 pos) (mTup mr) :=
  (pe_tup h).imp fun σ H Q ⟨g, S, ρ, w, S', rs, re, e, fin⟩ => by
    unfold mTup at e
    simp only [Option.bind_eq_some_iff] at e
    obtain ⟨⟨x, S1⟩, e1, ds, e2, e3⟩ := e
    split at e3
    · rename_i hf
      cases e3
      refine ⟨g, S, ρ, x, S1, rs, re, e1, fun g1 H1 x1 rs1 vs rv => ?_⟩
      have t := datas_rs rv e2
      refine ⟨by rw [t.length]; exact few_line hf, fun p hp => fin g1 _ (x1.trans (.upd hp)) (rs1.grown (.inr ⟨p, _, hp, rfl⟩)) _ (R0.newT hp t)⟩
    · cases e3
end
/-! ### a fresh list: for displays, comprehensions, list(), + ..; it may become a cell -/
/-- the value is a new list of these data -/
def tF (K : PySem.W.Frag) (m : M (List PyData)) : TE := fun σ H Q => ∃ g S ρ ds S', RS K g H S ∧ RE K g H σ ρ ∧ m ρ S = some (ds, S') ∧
  ∀ g' H' p vs, Ext g H g' H' → RS K ⟨g'.al, p :: g'.hid⟩ H' S' → H p = none → p ∉ g'.hid → H' p = some (.lst vs) → R0s K ⟨g'.al, p :: g'.hid⟩ H' vs ds → Q (.ref p) H'
abbrev AF (X : Cx) (e : Expr) (m : M (List PyData)) : Prop := PE X e (tF X.K m)
def mFr (m : M (List PyData)) : M Wv := fun ρ S => (m ρ S).map fun p => (.d (.list p.1), p.2)
def mNew (m : M (List PyData)) : M Wv := fun ρ S => (m ρ S).map fun p => (.r p.2.length, p.2 ++ [.lst p.1])
section
variable {K : PySem.W.Frag} {g g' : G} {H H' : Hp} {S : Sto}
theorem RS.hide (rs : RS K g H S) {p : Addr} {o : HO} (h : H p = none) : RS K ⟨g.al, p :: g.hid⟩ (upd H p o) S where
  len := rs.len
  nd := rs.nd
  ok := fun n c e => (rs.ok n c e).elim .inl fun ⟨a, h1, h2⟩ => .inr ⟨a, h1, h2.mo ((Ext.upd h).hide h) fun u q => by rw [upd_ne (ne_of_none q h)]; exact q⟩
  hid := fun a m => by
    by_cases q : a = p
    · subst q
      exact ⟨(by rw [upd_same]; intro z; cases z), (rs.fresh h).1⟩
    · obtain ⟨h1, h2⟩ := rs.hid a ((List.mem_cons.mp m).resolve_left q)
      exact ⟨by rw [upd_ne q]; exact h1, h2⟩
theorem RS.unhide {al : List (Option Addr)} {hd : List Addr} {p : Addr} (rs : RS K ⟨al, p :: hd⟩ H S) : RS K ⟨al, hd⟩ H S where
  len := rs.len
  nd := rs.nd
  ok := fun n c e => (rs.ok n c e).elim .inl fun ⟨a, h1, h2⟩ => .inr ⟨a, h1, h2.mo .unhide fun _ q => q⟩
  hid := fun a m => rs.hid a (List.mem_cons_of_mem _ m)
/-- the hidden one becomes a cell -/
theorem RS.publish {al : List (Option Addr)} {hd : List Addr} {p : Addr} (rs : RS K ⟨al, p :: hd⟩ H S) (np : p ∉ hd) {c : Cell} (hc : CellOk K ⟨al ++ [some p], hd⟩ H p c) : RS K ⟨al ++ [some p], hd⟩ H (S ++ [c]) := by
  have fp : some p ∉ al := (rs.hid p List.mem_cons_self).2
  have last : ∀ {n : Nat} {a : Addr}, (al ++ [some p])[n]? = some (some a) → ¬ n < al.length → p = a := fun {n a} e hn => by
    rw [List.getElem?_append_right (Nat.le_of_not_lt hn)] at e
    have hn' : n - al.length = 0 := by
      rcases Nat.eq_zero_or_pos (n - al.length) with z | z
      · exact z
      · rw [List.getElem?_eq_none (show [some p].length ≤ _ from z)] at e; cases e
    rw [hn'] at e
    simpa using e
  refine ⟨by simp [show al.length = S.length from rs.len], fun n m a e1 e2 => ?_, fun n c' e => ?_, fun a m => ?_⟩
  · have e1 : (al ++ [some p])[n]? = some (some a) := e1
    have e2 : (al ++ [some p])[m]? = some (some a) := e2
    by_cases h1 : n < al.length
    · have e1' := e1
      rw [List.getElem?_append_left h1] at e1'
      by_cases h2 : m < al.length
      · rw [List.getElem?_append_left h2] at e2
        exact rs.nd n m a e1' e2
      · have := last e2 h2
        subst this
        exact absurd (List.mem_of_getElem? e1') fp
    · have := last e1 h1
      subst this
      by_cases h2 : m < al.length
      · rw [List.getElem?_append_left h2] at e2
        exact absurd (List.mem_of_getElem? e2) fp
      · have l1 := (List.getElem?_eq_some_iff.mp e1).1
        have l2 := (List.getElem?_eq_some_iff.mp e2).1
        simp at l1 l2
        omega
  · have ll : al.length = S.length := rs.len
    by_cases hn : n < S.length
    · rw [List.getElem?_append_left hn] at e
      show ((al ++ [some p])[n]? = some none ∧ c' = .dead) ∨ ∃ a, (al ++ [some p])[n]? = some (some a) ∧ _
      rw [List.getElem?_append_left (by omega)]
      rcases rs.ok n c' e with z | ⟨a, z, k⟩
      · exact .inl z
      · exact .inr ⟨a, z, k.mo .publish fun u q => q⟩
    · have en : n = S.length := by
        have := (List.getElem?_eq_some_iff.mp e).1
        rw [List.length_append] at this
        simp at this
        omega
      subst en
      rw [List.getElem?_append_right (Nat.le_refl _), Nat.sub_self] at e
      have : c = c' := by simpa using e
      subst this
      refine .inr ⟨p, ?_, hc⟩
      show (al ++ [some p])[S.length]? = _
      rw [← ll, List.getElem?_append_right (Nat.le_refl _), Nat.sub_self]
      rfl
  · obtain ⟨h1, h2⟩ := rs.hid a (List.mem_cons_of_mem _ m)
    refine ⟨h1, fun z => ?_⟩
    have z : some a ∈ al ++ [some p] := z
    rcases List.mem_append.mp z with z | z
    · exact h2 z
    · have : a = p := by simpa using z
      subst this
      exact np m
theorem Ext.publish (x : Ext g H g' H') {p : Addr} (h : H p = none) : Ext g H ⟨g'.al ++ [some p], g'.hid⟩ H' where
  hid := x.hid
  grow := x.grow
  keep := x.keep
  live := fun n a e => by
    show (g'.al ++ [some p])[n]? = _ ∨ (g'.al ++ [some p])[n]? = _
    rcases x.live n a e with z | z
    · exact .inl (by rw [List.getElem?_append_left (List.getElem?_eq_some_iff.mp z).1]; exact z)
    · exact .inr (by rw [List.getElem?_append_left (List.getElem?_eq_some_iff.mp z).1]; exact z)
  dead := fun n e => by
    show (g'.al ++ [some p])[n]? = _
    have z := x.dead n e
    rw [List.getElem?_append_left (List.getElem?_eq_some_iff.mp z).1]; exact z
  new := fun a m => by
    rcases List.mem_append.mp m with m | m
    · exact x.new a m
    · have : a = p := by simpa using m
      subst this
      exact .inr h
theorem Ext.noneB (x : Ext g H g' H') {p : Addr} (h : H' p = none) : H p = none := by
  cases q : H p with
  | none => rfl
  | some o => exact absurd h (x.keep p (by rw [q]; intro z; cases z))
/-- laid at a free place -/
theorem fresh_lst (rs : RS K g H S) {p : Addr} (hp : H p = none) {vs : List V} {ds : List PyData} (t : R0s K g H vs ds) :
    RS K ⟨g.al, p :: g.hid⟩ (upd H p (.lst vs)) S ∧ p ∉ g.hid ∧ R0s K ⟨g.al, p :: g.hid⟩ (upd H p (.lst vs)) vs ds :=
  ⟨rs.hide hp, (rs.fresh hp).2, t.mo ((Ext.upd hp).hide hp)⟩
end
section
variable {X : Cx} {e : Expr} {m : M (List PyData)} {pos : Pos} {es : List Expr}
theorem fr_te {K : PySem.W.Frag} {m : M (List PyData)} {σ : L2.St} {H : Hp} {Q : VK} (h : tM K (mFr m) σ H Q) : tF K m σ H Q := by
  obtain ⟨g, S, ρ, w, S', rs, re, e, fin⟩ := h
  unfold mFr at e
  simp only [Option.map_eq_some_iff] at e
  obtain ⟨⟨ds, S1⟩, e1, e2⟩ := e
  cases e2
  exact ⟨g, S, ρ, ds, S1, rs, re, e1, fun g1 H1 p vs x1 rs1 hp np e1 t => fin g1 H1 x1 rs1.unhide _ (R0.lst e1 ⟨(rs1.hid p List.mem_cons_self).2, np⟩ (t.mo .unhide))⟩
theorem new_te {K : PySem.W.Frag} {m : M (List PyData)} {σ : L2.St} {H : Hp} {Q : VK} (h : tM K (mNew m) σ H Q) : tF K m σ H Q := by
  obtain ⟨g, S, ρ, w, S', rs, re, e, fin⟩ := h
  unfold mNew at e
  simp only [Option.map_eq_some_iff] at e
  obtain ⟨⟨ds, S1⟩, e1, e2⟩ := e
  cases e2
  refine ⟨g, S, ρ, ds, S1, rs, re, e1, fun g1 H1 p vs x1 rs1 hp np e1 t => fin _ _ (x1.publish hp) (rs1.publish np ⟨vs, e1, t.mo .publish⟩) _ ⟨p, rfl, .inl ?_⟩⟩
  show (g1.al ++ [some p])[S1.length]? = _
  rw [← show g1.al.length = S1.length from rs1.len, List.getElem?_append_right (Nat.le_refl _), Nat.sub_self]
  rfl
theorem AF.frozen (h : AF X e m) : AE X e (mFr m) := h.imp fun σ H Q q => fr_te q
theorem AF.cell (h : AF X e m) : AE X e (mNew m) := h.imp fun σ H Q q => new_te q
def mDisp (m : M (List Wv)) : M (List PyData) := fun ρ S => (m ρ S).bind fun p => (datas p.1).bind fun ds => if few ds.length then some (ds, p.2) else none
theorem af_lst {mr : M (List Wv)} (h : AA X es mr) : AF X (.List es pos) (mDisp mr) :=
  (pe_lst h).imp fun σ H Q ⟨g, S, ρ, w, S', rs, re, e, fin⟩ => by
    unfold mDisp at e
    simp only [Option.bind_eq_some_iff] at e
    obtain ⟨⟨x, S1⟩, e1, ds, e2, e3⟩ := e
    split at e3
    · rename_i hf
      cases e3
      refine ⟨g, S, ρ, x, S1, rs, re, e1, fun g1 H1 x1 rs1 vs rv => ?_⟩
      have t := datas_rs rv e2
      refine ⟨by rw [t.length]; exact few_line hf, fun p hp => ?_⟩
      obtain ⟨r1, np, t1⟩ := fresh_lst rs1 hp t
      exact fin g1 _ p vs (x1.trans (.upd hp)) r1 (x1.noneB hp) np upd_same t1
    · cases e3
end
end Ev
set_option linter.all false
set_option maxRecDepth 100000
set_option maxHeartbeats 4000000
/-! Ev3: what operators and built-ins do with data. -/
namespace Ev
open PySem PySem.Spec PyProof.Rows L2
/-! ### shapes, depth -/
def shal : Nat → PyData → Bool
  | _, .none => true
  | _, .bool _ => true
  | _, .int _ => true
  | _, .str _ => true
  | n + 1, .list xs => xs.all (shal n)
  | n + 1, .tuple xs => xs.all (shal n)
  | _, _ => false
theorem depthAll_le {n : Nat} : ∀ {xs : List PyData}, (∀ x ∈ xs, x.depth ≤ n) → PyData.depthAll xs ≤ n
  | [], _ => by rw [PyData.depthAll]; exact Nat.zero_le _
  | x :: xs, h => by
    rw [PyData.depthAll]
    exact Nat.max_le.mpr ⟨h x (List.mem_cons_self), depthAll_le fun y hy => h y (List.mem_cons_of_mem _ hy)⟩
theorem shal_depth : ∀ (n : Nat) (d : PyData), shal n d = true → d.depth ≤ n
  | _, .none, _ => by rw [PyData.depth]; exact Nat.zero_le _
  | _, .bool _, _ => by rw [PyData.depth]; exact Nat.zero_le _
  | _, .int _, _ => by rw [PyData.depth]; exact Nat.zero_le _
  | _, .str _, _ => by rw [PyData.depth]; exact Nat.zero_le _
  | n + 1, .list xs, h => by
    have h : xs.all (shal n) = true := by simpa [shal] using h
    rw [PyData.depth]
    exact Nat.succ_le_succ (depthAll_le fun x hx => shal_depth n x (List.all_eq_true.mp h x hx))
  | n + 1, .tuple xs, h => by
    have h : xs.all (shal n) = true := by simpa [shal] using h
    rw [PyData.depth]
    exact Nat.succ_le_succ (depthAll_le fun x hx => shal_depth n x (List.all_eq_true.mp h x hx))
  | 0, .list xs, h => by simp [shal] at h
  | 0, .tuple xs, h => by simp [shal] at h
  | n, .dict xs, h => by cases n <;> simp [shal] at h
/-- a shape: alike data -/
inductive Sh where
  | bl | int | str
  | tU (s : Sh)
  | tP (ss : List Sh)
  | lU (s : Sh)
mutual
def Sh.fit : Sh → PyData → Bool
  | .bl, .bool _ => true
  | .int, .int _ => true
  | .str, .str _ => true
  | .tU s, .tuple xs => Sh.fitU s xs
  | .lU s, .list xs => Sh.fitU s xs
  | .tP ss, .tuple xs => Sh.fitP ss xs
  | _, _ => false
def Sh.fitU : Sh → List PyData → Bool
  | _, [] => true
  | s, x :: xs => Sh.fit s x && Sh.fitU s xs
def Sh.fitP : List Sh → List PyData → Bool
  | [], [] => true
  | s :: ss, x :: xs => Sh.fit s x && Sh.fitP ss xs
  | _, _ => false
end
mutual
theorem Sh.fit_alike : ∀ (s : Sh) (d e : PyData), Sh.fit s d = true → Sh.fit s e = true → PySem.W.alike d e = true
  | .bl, d, e, h, h' => by cases d <;> cases e <;> simp_all [Sh.fit, PySem.W.alike]
  | .int, d, e, h, h' => by cases d <;> cases e <;> simp_all [Sh.fit, PySem.W.alike]
  | .str, d, e, h, h' => by cases d <;> cases e <;> simp_all [Sh.fit, PySem.W.alike]
  | .tU s, d, e, h, h' => by
    cases d <;> simp [Sh.fit] at h
    cases e <;> simp [Sh.fit] at h'
    simp only [PySem.W.alike]
    exact Sh.fitU_alike s _ _ h h'
  | .lU s, d, e, h, h' => by
    cases d <;> simp [Sh.fit] at h
    cases e <;> simp [Sh.fit] at h'
    simp only [PySem.W.alike]
    exact Sh.fitU_alike s _ _ h h'
  | .tP ss, d, e, h, h' => by
    cases d <;> simp [Sh.fit] at h
    cases e <;> simp [Sh.fit] at h'
    simp only [PySem.W.alike]
    exact Sh.fitP_alike ss _ _ h h'
theorem Sh.fitU_alike : ∀ (s : Sh) (xs ys : List PyData), Sh.fitU s xs = true → Sh.fitU s ys = true → PySem.W.alikeAll xs ys = true
  | _, [], _, _, _ => by rw [PySem.W.alikeAll]
  | _, _ :: _, [], _, _ => by rw [PySem.W.alikeAll]
  | s, x :: xs, y :: ys, h, h' => by
    simp only [Sh.fitU, Bool.and_eq_true] at h h'
    rw [PySem.W.alikeAll, Sh.fit_alike s x y h.1 h'.1, Sh.fitU_alike s xs ys h.2 h'.2]
    rfl
theorem Sh.fitP_alike : ∀ (ss : List Sh) (xs ys : List PyData), Sh.fitP ss xs = true → Sh.fitP ss ys = true → PySem.W.alikeAll xs ys = true
  | _, [], _, _, _ => by rw [PySem.W.alikeAll]
  | _, _ :: _, [], _, _ => by rw [PySem.W.alikeAll]
  | [], x :: xs, y :: ys, h, h' => by simp [Sh.fitP] at h
  | s :: ss, x :: xs, y :: ys, h, h' => by
    simp only [Sh.fitP, Bool.and_eq_true] at h h'
    rw [PySem.W.alikeAll, Sh.fit_alike s x y h.1 h'.1, Sh.fitP_alike ss xs ys h.2 h'.2]
    rfl
end
theorem Sh.fit_none {s : Sh} {d : PyData} (h : Sh.fit s d = true) : d ≠ .none := by
  rintro rfl
  cases s <;> simp [Sh.fit] at h
mutual
def Sh.beq : Sh → Sh → Bool
  | .bl, .bl => true
  | .int, .int => true
  | .str, .str => true
  | .tU a, .tU b => Sh.beq a b
  | .lU a, .lU b => Sh.beq a b
  | .tP a, .tP b => Sh.beqs a b
  | _, _ => false
def Sh.beqs : List Sh → List Sh → Bool
  | [], [] => true
  | a :: as, b :: bs => Sh.beq a b && Sh.beqs as bs
  | _, _ => false
end
/-- the shape of tuples whose items have these shapes -/
def Sh.ofAll : List Sh → Sh
  | [] => .tU .int
  | s :: ss => if ss.all (Sh.beq s) then .tU s else .tP (s :: ss)
mutual
def Sh.guess : PyData → Sh
  | .bool _ => .bl
  | .str _ => .str
  | .tuple xs => Sh.ofAll (Sh.guesses xs)
  | .list xs => match Sh.guesses xs with
    | [] => .lU .int
    | s :: _ => .lU s
  | _ => .int
def Sh.guesses : List PyData → List Sh
  | [] => []
  | x :: xs => Sh.guess x :: Sh.guesses xs
end
/-- all have one shape, none is deep -/
def homog : List PyData → Bool
  | [] => true
  | d :: ds => let s := Sh.guess d; (d :: ds).all fun x => Sh.fit s x && shal 9 x
theorem homog_alike {ds : List PyData} (h : homog ds = true) : (∀ x ∈ ds, ∀ y ∈ ds, PySem.W.alike x y = true) ∧ (∀ x ∈ ds, x ≠ .none) ∧ ∀ x ∈ ds, x.depth ≤ 9 := by
  cases ds with
  | nil => exact ⟨fun _ h => by simp at h, fun _ h => by simp at h, fun _ h => by simp at h⟩
  | cons d ds =>
    have k : ∀ x ∈ d :: ds, Sh.fit (Sh.guess d) x = true ∧ shal 9 x = true := fun x hx => by
      have := List.all_eq_true.mp h x hx
      simpa using this
    exact ⟨fun x hx y hy => Sh.fit_alike _ _ _ (k x hx).1 (k y hy).1, fun x hx => Sh.fit_none (k x hx).1, fun x hx => shal_depth 9 x (k x hx).2⟩
/-! ### order -/
def ilt : Int → Int → Bool
  | .ofNat a, .ofNat b => Nat.blt a b
  | .negSucc _, .ofNat _ => true
  | .ofNat _, .negSucc _ => false
  | .negSucc a, .negSucc b => Nat.blt b a
theorem ilt_eq (i j : Int) : ilt i j = decide (i < j) := by
  cases i with
  | ofNat a =>
    cases j with
    | ofNat b =>
      show Nat.blt a b = _
      rw [Bool.eq_iff_iff, Nat.blt_eq, decide_eq_true_eq]
      simp
    | negSucc b => exact (decide_eq_false (by have := Int.negSucc_lt_zero b; have := Int.ofNat_nonneg a; simp only [Int.ofNat_eq_natCast] at *; omega)).symm
  | negSucc a =>
    cases j with
    | ofNat b => exact (decide_eq_true (by have := Int.negSucc_lt_zero a; have := Int.ofNat_nonneg b; simp only [Int.ofNat_eq_natCast] at *; omega)).symm
    | negSucc b =>
      show Nat.blt b a = _
      rw [Bool.eq_iff_iff, Nat.blt_eq, decide_eq_true_eq]
      omega
mutual
def cmpD : PyData → PyData → Bool
  | .bool a, .bool b => !a && b
  | .int i, .int j => ilt i j
  | .str x, .str y => decide (x.cps.toList < y.cps.toList)
  | .list xs, .list ys => cmpL xs ys
  | .tuple xs, .tuple ys => cmpL xs ys
  | _, _ => false
def cmpL : List PyData → List PyData → Bool
  | x :: xs, y :: ys => if PyData.eqv x y then cmpL xs ys else cmpD x y
  | [], _ :: _ => true
  | _, [] => false
end
mutual
theorem cmpD_eq : ∀ (x y : PyData), PySem.W.alike x y = true → PySem.W.dataLt x y = cmpD x y
  | .none, y, h => by cases y <;> simp [PySem.W.alike] at h; rw [cmpD]; exact PyProof.Rows.lex_irrefl _; all_goals simp
  | .bool a, y, h => by
    cases y <;> simp [PySem.W.alike] at h
    rename_i b
    rw [PySem.W.dataLt_bool, cmpD]
    cases a <;> cases b <;> rfl
  | .int a, y, h => by
    cases y <;> simp [PySem.W.alike] at h
    rw [PySem.W.dataLt_int, cmpD, ilt_eq]
  | .str a, y, h => by
    cases y <;> simp [PySem.W.alike] at h
    rw [PySem.W.dataLt_str, cmpD]
  | .list xs, y, h => by
    cases y <;> simp [PySem.W.alike] at h
    rw [PySem.W.dataLt_list, cmpD]
    exact cmpL_eq _ _ h
  | .tuple xs, y, h => by
    cases y <;> simp [PySem.W.alike] at h
    rw [PySem.W.dataLt_tuple, cmpD]
    exact cmpL_eq _ _ h
  | .dict xs, y, h => by cases y <;> simp [PySem.W.alike] at h
theorem cmpL_eq : ∀ (xs ys : List PyData), PySem.W.alikeAll xs ys = true → PyProof.Rows.lexLt PyProof.Rows.itemOrd (PySem.W.keyToksAll xs) (PySem.W.keyToksAll ys) = cmpL xs ys
  | [], [], _ => by rw [cmpL]; exact PyProof.Rows.lex_irrefl _; all_goals simp
  | [], y :: ys, _ => by rw [cmpL, PySem.W.toks_all_cons]; rfl
  | x :: xs, [], _ => by rw [cmpL, PySem.W.toks_all_cons]; rfl; all_goals simp
  | x :: xs, y :: ys, h => by
    obtain ⟨h1, h2⟩ := PySem.W.alike_all_cons h
    rw [cmpL]
    by_cases e : PyData.eqv x y = true
    · rw [if_pos e, PySem.W.dataLt_all_yes h1 e]
      exact cmpL_eq xs ys h2
    · rw [if_neg e, PySem.W.dataLt_all_no h1 (by simpa using e)]
      exact cmpD_eq x y h1
end
end Ev
set_option linter.all false
set_option maxRecDepth 100000
set_option maxHeartbeats 4000000
/-! Ev4: operators, subscripts, slices. -/
namespace Ev
open PySem PySem.Spec PyProof.Rows L2
/-- what every body has: no handled exception, room -/
structure Cal (X : Cx) : Prop where
  calm : X.calm = true
  hu : X.A.units + 64 < cLine
section
variable {X : Cx}
theorem Grown.rfl' {H : Hp} : Grown H H := .inl rfl
theorem Grown.new {H : Hp} {p : Addr} {o : HO} (h : H p = none) : Grown H (upd H p o) := .inr ⟨p, o, h, rfl⟩
theorem RT.tup0 {K : PySem.W.Frag} {g : G} {H : Hp} {v : V} {ds : List PyData} (h : RT K g H v (.tuple ds)) : R0 K g H v (.tuple ds) := by
  rcases h with h | ⟨_, _, _, _, z, _⟩
  · exact h
  · cases z
/-! ### + -/
def dAdd : F2
  | .int i, .int j => some (.int (i + j))
  | .str x, .str y => if few (x.length + y.length) then some (.str (x ++ y)) else none
  | .list xs, .list ys => if few (xs.length + ys.length) then some (.list (xs ++ ys)) else none
  | .tuple xs, .tuple ys => if few (xs.length + ys.length) then some (.tuple (xs ++ ys)) else none
  | _, _ => none
def rAddI : R2 := rI0 fun i j => .int (i + j)
def rAddS : R2 := fun x y H Q => ∃ i j, x = .str i ∧ y = .str j ∧ i.length + j.length ≤ sizeLine ∧ Q (.str (i ++ j)) H
def rAdd' (K : PySem.W.Frag) : R2 := fun x y H Q => rAddI x y H Q ∨ rAddS x y H Q ∨ rCat x y H Q ∨ rCatA K x y H Q
theorem o_add : OpR X (binaryOp .Add) (rAdd' X.K) ∧ OpD X.K (rAdd' X.K) dAdd := by
  refine ⟨op_add.or (op_add_str.or (op_cat.or op_catA)), fun g H S x y dx dy dz Q rs rx ry e k => ?_⟩
  unfold dAdd at e
  split at e
  · cases e
    exact .inl ⟨_, _, rx.int, ry.int, k _ _ .rfl' (.int _)⟩
  · split at e
    · rename_i hf
      cases e
      exact .inr (.inl ⟨_, _, rx.str, ry.str, few_line hf, k _ _ .rfl' (.str _)⟩)
    · cases e
  · split at e
    · rename_i hf
      cases e
      obtain ⟨a, xs, rfl, ha, t⟩ := rx.list
      obtain ⟨b, ys, rfl, hb, u⟩ := ry.list
      exact .inr (.inr (.inl ⟨a, b, xs, ys, rfl, rfl, ha, hb, by rw [t.length, u.length]; exact few_line hf, fun p hp => k _ _ (.new hp) (R0.newL rs hp (t.append u))⟩))
    · cases e
  · split at e
    · rename_i hf
      cases e
      obtain ⟨a, xs, rfl, ha, t⟩ := rx.tup
      obtain ⟨b, ys, rfl, hb, u⟩ := ry.tup
      have rx' := rx.tup0
      have ry' := ry.tup0
      refine .inr (.inr (.inr ⟨a, b, xs, ys, rfl, rfl, ha, hb, by rw [t.length, u.length]; exact few_line hf, fun z => ?_, fun _ z => ?_, fun _ _ p hp => k _ _ (.new hp) (R0.newT hp (t.append u))⟩))
      · subst z
        cases t
        exact k _ _ .rfl' ry'
      · subst z
        cases u
        rw [List.append_nil] at k
        exact k _ _ .rfl' rx'
    · cases e
  · cases e
/-! ### ints -/
theorem opD_int {r : R2} {g : Int → Int → PyData} {v : Int → Int → V} {C : Int → Int → Prop} (f : F2) (hf : ∀ x y z, f x y = some z → ∃ i j, x = .int i ∧ y = .int j ∧ C i j ∧ z = g i j) (hv : ∀ (K : PySem.W.Frag) (g' : G) (H : Hp) i j, R0 K g' H (v i j) (g i j))
    {K : PySem.W.Frag} : OpD K (rI C v) f := fun g0 H S x y dx dy dz Q rs rx ry e k => by
  obtain ⟨i, j, rfl, rfl, c, rfl⟩ := hf _ _ _ e
  exact ⟨i, j, rx.int, ry.int, c, k _ _ .rfl' (hv _ _ _ _ _)⟩
theorem opD_int0 {r : R2} {g : Int → Int → PyData} {v : Int → Int → V} (f : F2) (hf : ∀ x y z, f x y = some z → ∃ i j, x = .int i ∧ y = .int j ∧ z = g i j) (hv : ∀ (K : PySem.W.Frag) (g' : G) (H : Hp) i j, R0 K g' H (v i j) (g i j))
    {K : PySem.W.Frag} : OpD K (rI0 v) f := fun g0 H S x y dx dy dz Q rs rx ry e k => by
  obtain ⟨i, j, rfl, rfl, rfl⟩ := hf _ _ _ e
  exact ⟨i, j, rx.int, ry.int, k _ _ .rfl' (hv _ _ _ _ _)⟩
def dSub : F2
  | .int i, .int j => some (.int (i - j))
  | _, _ => none
theorem o_sub : OpR X (binaryOp .Sub) (rI0 fun i j => .int (i - j)) ∧ OpD X.K (rI0 fun i j => .int (i - j)) dSub :=
  ⟨op_sub, opD_int0 (r := rAddI) dSub (fun x y z e => by unfold dSub at e; split at e <;> cases e; exact ⟨_, _, rfl, rfl, rfl⟩) fun _ _ _ _ _ => .int _⟩
def isSmall (i : Int) : Bool := Nat.blt i.natAbs 18446744073709551616
theorem isSmall_ok {i : Int} (h : isSmall i = true) : -(2 ^ 64) < i ∧ i < 2 ^ 64 := by
  have := Nat.blt_eq.mp h
  omega
def dMul : F2
  | .int i, .int j => if isSmall i || isSmall j then some (.int (i * j)) else none
  | .list xs, .int k => if few (xs.length * k.toNat) && isSmall k && Nat.blt k.natAbs 1000000 then some (.list (List.replicate k.toNat xs).flatten) else none
  | .tuple (x :: xs), .int k => if few xs.length && Nat.ble xs.length 900 && Nat.ble k.natAbs 1000 then (if decide (2 ≤ k) then some (.tuple (List.replicate k.toNat (x :: xs)).flatten) else none) else none
  | _, _ => none
def rMul' (K : PySem.W.Frag) : R2 := fun x y H Q => rI CMul (fun i j => .int (i * j)) x y H Q ∨ rRep x y H Q ∨ rRepT K x y H Q
theorem o_mul : OpR X (binaryOp .Mult) (rMul' X.K) ∧ OpD X.K (rMul' X.K) dMul := by
  refine ⟨op_mul.or (op_rep.or op_repT), fun g H S x y dx dy dz Q rs rx ry e k => ?_⟩
  unfold dMul at e
  split at e
  · split at e
    · rename_i hf
      cases e
      refine .inl ⟨_, _, rx.int, ry.int, ?_, k _ _ .rfl' (.int _)⟩
      rcases Bool.or_eq_true_iff.mp hf with h | h
      · exact .inl (isSmall_ok h)
      · exact .inr (isSmall_ok h)
    · cases e
  · split at e
    · rename_i n hf
      cases e
      simp only [Bool.and_eq_true] at hf
      obtain ⟨⟨h1, h2⟩, h3⟩ := hf
      have h4 := Nat.blt_eq.mp h3
      obtain ⟨a, xs, rfl, ha, t⟩ := rx.list
      refine .inr (.inl ⟨a, _, xs, rfl, ry.int, ha, by omega, by omega, by rw [t.length]; exact few_line h1, fun p hp => k _ _ (.new hp) (R0.newL rs hp (t.rep _))⟩)
    · cases e
  · split at e
    · rename_i n hf
      simp only [Bool.and_eq_true] at hf
      obtain ⟨⟨h1, h2⟩, h3⟩ := hf
      have h4 := Nat.le_of_ble_eq_true h2
      have h5 := Nat.le_of_ble_eq_true h3
      split at e
      · rename_i h6
        cases e
        have h6 := of_decide_eq_true h6
        obtain ⟨a, xs, rfl, ha, t⟩ := rx.tup
        refine .inr (.inr ⟨a, _, xs, rfl, ry.int, ha, fun z => ?_, h6, by omega, by rw [t.length, List.length_cons]; omega, fun p hp => k _ _ (.new hp) (R0.newT hp (t.rep _))⟩)
        subst z
        cases t
      · cases e
    · cases e
  · cases e
def dFdiv : F2
  | .int i, .int j => if j != 0 && Nat.blt j.natAbs 1073741824 then some (.int (i.fdiv j)) else none
  | _, _ => none
theorem o_fdiv : OpR X (binaryOp .FloorDiv) (rI CDivN fun i j => .int (i.fdiv j)) ∧ OpD X.K (rI CDivN fun i j => .int (i.fdiv j)) dFdiv :=
  ⟨op_fdivN, opD_int (r := rAddI) dFdiv (fun x y z e => by
    unfold dFdiv at e
    split at e
    · split at e
      · rename_i h
        cases e
        simp only [Bool.and_eq_true, bne_iff_ne] at h
        exact ⟨_, _, rfl, rfl, ⟨h.1, Nat.blt_eq.mp h.2⟩, rfl⟩
      · cases e
    · cases e) fun _ _ _ _ _ => .int _⟩
def dMod : F2
  | .int i, .int j => if j != 0 then some (.int (i.fmod j)) else none
  | _, _ => none
theorem o_mod : OpR X (binaryOp .Mod) (rI (fun _ j => j ≠ 0) fun i j => .int (i.fmod j)) ∧ OpD X.K (rI (fun _ j => j ≠ 0) fun i j => .int (i.fmod j)) dMod :=
  ⟨op_modN, opD_int (r := rAddI) dMod (fun x y z e => by
    unfold dMod at e
    split at e
    · split at e
      · rename_i h
        cases e
        exact ⟨_, _, rfl, rfl, by simpa using h, rfl⟩
      · cases e
    · cases e) fun _ _ _ _ _ => .int _⟩
def powOk (i j : Int) : Bool := isSmall i && !(ilt j 0) && Nat.ble j.natAbs 1000000
theorem powOk_ok {i j : Int} (h : powOk i j = true) : CPow i j := by
  unfold powOk at h
  simp only [Bool.and_eq_true, Bool.not_eq_true'] at h
  obtain ⟨⟨h1, h2⟩, h3⟩ := h
  have a := isSmall_ok h1
  rw [ilt_eq] at h2
  have b := of_decide_eq_false h2
  have c := Nat.le_of_ble_eq_true h3
  exact ⟨by omega, by omega, by omega⟩
def dPow : F2
  | .int i, .int j => if powOk i j then some (.int (i ^ j.toNat)) else none
  | _, _ => none
theorem o_pow : OpR X (binaryOp .Pow) (rI CPow fun i j => .int (i ^ j.toNat)) ∧ OpD X.K (rI CPow fun i j => .int (i ^ j.toNat)) dPow :=
  ⟨op_pow, opD_int (r := rAddI) dPow (fun x y z e => by
    unfold dPow at e
    split at e
    · split at e
      · rename_i h
        cases e
        exact ⟨_, _, rfl, rfl, powOk_ok h, rfl⟩
      · cases e
    · cases e) fun _ _ _ _ _ => .int _⟩
def dShl : F2
  | .int i, .int j => if powOk i j then some (.int (i * 2 ^ j.toNat)) else none
  | _, _ => none
theorem o_shl : OpR X (binaryOp .LShift) (rI CPow fun i j => .int (i * 2 ^ j.toNat)) ∧ OpD X.K (rI CPow fun i j => .int (i * 2 ^ j.toNat)) dShl :=
  ⟨op_shl, opD_int (r := rAddI) dShl (fun x y z e => by
    unfold dShl at e
    split at e
    · split at e
      · rename_i h
        cases e
        exact ⟨_, _, rfl, rfl, powOk_ok h, rfl⟩
      · cases e
    · cases e) fun _ _ _ _ _ => .int _⟩
def dShr : F2
  | .int i, .int j => if !(ilt j 0) then some (.int (i / 2 ^ j.toNat)) else none
  | _, _ => none
theorem o_shr : OpR X (binaryOp .RShift) (rI (fun _ j => 0 ≤ j) fun i j => .int (i / 2 ^ j.toNat)) ∧ OpD X.K (rI (fun _ j => 0 ≤ j) fun i j => .int (i / 2 ^ j.toNat)) dShr :=
  ⟨op_shr, opD_int (r := rAddI) dShr (fun x y z e => by
    unfold dShr at e
    split at e
    · split at e
      · rename_i h
        cases e
        rw [ilt_eq] at h
        exact ⟨_, _, rfl, rfl, by simpa using h, rfl⟩
      · cases e
    · cases e) fun _ _ _ _ _ => .int _⟩
def dBand : F2
  | .int i, .int j => some (.int (Builtin.bitAnd i j))
  | _, _ => none
theorem o_band : OpR X (binaryOp .BitAnd) (rI0 fun i j => .int (Builtin.bitAnd i j)) ∧ OpD X.K (rI0 fun i j => .int (Builtin.bitAnd i j)) dBand :=
  ⟨op_and, opD_int0 (r := rAddI) dBand (fun x y z e => by unfold dBand at e; split at e <;> cases e; exact ⟨_, _, rfl, rfl, rfl⟩) fun _ _ _ _ _ => .int _⟩
def dBor : F2
  | .int i, .int j => some (.int (Builtin.bitOr i j))
  | _, _ => none
theorem o_bor : OpR X (binaryOp .BitOr) (rI0 fun i j => .int (Builtin.bitOr i j)) ∧ OpD X.K (rI0 fun i j => .int (Builtin.bitOr i j)) dBor :=
  ⟨op_or, opD_int0 (r := rAddI) dBor (fun x y z e => by unfold dBor at e; split at e <;> cases e; exact ⟨_, _, rfl, rfl, rfl⟩) fun _ _ _ _ _ => .int _⟩
/-! ### == and != -/
def rEqP (K : PySem.W.Frag) (neg : Bool) : R2 := fun x y H Q => ∃ d e, Dp K H x d ∧ Dp K H y e ∧ d.plain = true ∧ e.plain = true ∧ min d.depth e.depth ≤ 60 ∧ Q (.bl (if neg then !PyData.eqv d e else PyData.eqv d e)) H
theorem op_eqP (c : Cal X) : OpR X (compareOp .Eq) (rEqP X.K false) := by
  intro pins s σ H x y v u Q I rx ry h
  obtain ⟨d, e, hd, he, pd, pe, hm, q⟩ := h
  obtain ⟨as, r1⟩ := Dp.reads I d x v hd rx
  obtain ⟨bs, r2⟩ := Dp.reads I e y u he ry
  exact SeqAt.eq_plain r1 r2 pd pe (by have := c.hu; omega) ⟨.bl _, H, I, rfl, q⟩
theorem op_neP (c : Cal X) : OpR X (compareOp .NotEq) (rEqP X.K true) := by
  intro pins s σ H x y v u Q I rx ry h
  obtain ⟨d, e, hd, he, pd, pe, hm, q⟩ := h
  obtain ⟨as, r1⟩ := Dp.reads I d x v hd rx
  obtain ⟨bs, r2⟩ := Dp.reads I e y u he ry
  exact SeqAt.ne_plain r1 r2 pd pe (by have := c.hu; omega) ⟨.bl _, H, I, rfl, q⟩
def dEq : F2 := fun x y => if shal 9 x || shal 9 y then some (.bool (PyData.eqv x y)) else none
def dNe : F2 := fun x y => if shal 9 x || shal 9 y then some (.bool (!PyData.eqv x y)) else none
theorem shal_min {x y : PyData} (h : (shal 9 x || shal 9 y) = true) : min x.depth y.depth ≤ 60 := by
  rcases Bool.or_eq_true_iff.mp h with h | h
  · exact Nat.le_trans (Nat.min_le_left _ _) (Nat.le_trans (shal_depth _ _ h) (by decide))
  · exact Nat.le_trans (Nat.min_le_right _ _) (Nat.le_trans (shal_depth _ _ h) (by decide))
theorem o_eq (c : Cal X) : OpR X (compareOp .Eq) (rEqP X.K false) ∧ OpD X.K (rEqP X.K false) dEq := by
  refine ⟨op_eqP c, fun g H S x y dx dy dz Q rs rx ry e k => ?_⟩
  unfold dEq at e
  split at e
  · rename_i h
    cases e
    exact ⟨dx, dy, rx.dp, ry.dp, rx.plain, ry.plain, shal_min h, k _ _ .rfl' (.bl _)⟩
  · cases e
theorem o_ne (c : Cal X) : OpR X (compareOp .NotEq) (rEqP X.K true) ∧ OpD X.K (rEqP X.K true) dNe := by
  refine ⟨op_neP c, fun g H S x y dx dy dz Q rs rx ry e k => ?_⟩
  unfold dNe at e
  split at e
  · rename_i h
    cases e
    exact ⟨dx, dy, rx.dp, ry.dp, rx.plain, ry.plain, shal_min h, k _ _ .rfl' (.bl _)⟩
  · cases e
/-! ### <, >, <=, >= -/
def rLtP (K : PySem.W.Frag) (f : PyData → PyData → Bool) : R2 := fun x y H Q => ∃ d e, Dp K H x d ∧ Dp K H y e ∧ PySem.W.alike d e = true ∧ d ≠ .none ∧ d.depth ≤ 60 ∧ Q (.bl (f d e)) H
theorem op_ltP (c : Cal X) : OpR X (compareOp .Lt) (rLtP X.K fun d e => PySem.W.dataLt d e) := by
  intro pins s σ H x y v u Q I rx ry h
  obtain ⟨d, e, hd, he, al, nn, hm, q⟩ := h
  obtain ⟨as, r1⟩ := Dp.reads I d x v hd rx
  obtain ⟨bs, r2⟩ := Dp.reads I e y u he ry
  exact PySem.W.lt_data r1 r2 al nn (by have := c.hu; have := Nat.min_le_left d.depth e.depth; omega) ⟨.bl _, H, I, rfl, q⟩
theorem op_gtP (c : Cal X) : OpR X (compareOp .Gt) (rLtP X.K fun d e => PySem.W.dataLt e d) := by
  intro pins s σ H x y v u Q I rx ry h
  obtain ⟨d, e, hd, he, al, nn, hm, q⟩ := h
  obtain ⟨as, r1⟩ := Dp.reads I d x v hd rx
  obtain ⟨bs, r2⟩ := Dp.reads I e y u he ry
  exact PySem.W.gt_data r1 r2 al nn (by have := c.hu; have := Nat.min_le_left d.depth e.depth; omega) ⟨.bl _, H, I, rfl, q⟩
theorem op_leP (c : Cal X) : OpR X (compareOp .LtE) (rLtP X.K fun d e => !PySem.W.dataLt e d) := by
  intro pins s σ H x y v u Q I rx ry h
  obtain ⟨d, e, hd, he, al, nn, hm, q⟩ := h
  obtain ⟨as, r1⟩ := Dp.reads I d x v hd rx
  obtain ⟨bs, r2⟩ := Dp.reads I e y u he ry
  exact PySem.W.le_data r1 r2 al nn (by have := c.hu; have := Nat.min_le_left d.depth e.depth; omega) ⟨.bl _, H, I, rfl, q⟩
theorem op_geP (c : Cal X) : OpR X (compareOp .GtE) (rLtP X.K fun d e => !PySem.W.dataLt d e) := by
  intro pins s σ H x y v u Q I rx ry h
  obtain ⟨d, e, hd, he, al, nn, hm, q⟩ := h
  obtain ⟨as, r1⟩ := Dp.reads I d x v hd rx
  obtain ⟨bs, r2⟩ := Dp.reads I e y u he ry
  exact PySem.W.ge_data r1 r2 al nn (by have := c.hu; have := Nat.min_le_left d.depth e.depth; omega) ⟨.bl _, H, I, rfl, q⟩
/-- d < e, if they can be compared -/
def ltD (d e : PyData) : Option Bool := match d, e with
  | .int i, .int j => some (ilt i j)
  | _, _ => let s := Sh.guess d; if Sh.fit s d && Sh.fit s e && shal 9 d && shal 9 e then some (cmpD d e) else none
theorem ltD_ok {d e : PyData} {b : Bool} (h : ltD d e = some b) : PySem.W.alike d e = true ∧ PySem.W.alike e d = true ∧ d ≠ .none ∧ d.depth ≤ 60 ∧ e.depth ≤ 60 ∧ e ≠ .none ∧ PySem.W.dataLt d e = b := by
  unfold ltD at h
  split at h
  · cases h
    refine ⟨rfl, rfl, by simp, by simp [PyData.depth], by simp [PyData.depth], by simp, ?_⟩
    rw [PySem.W.dataLt_int, ilt_eq]
  · simp only at h
    split at h
    · rename_i hf
      cases h
      simp only [Bool.and_eq_true] at hf
      obtain ⟨⟨⟨h1, h2⟩, h3⟩, h4⟩ := hf
      have al := Sh.fit_alike _ _ _ h1 h2
      exact ⟨al, Sh.fit_alike _ _ _ h2 h1, Sh.fit_none h1, Nat.le_trans (shal_depth _ _ h3) (by decide), Nat.le_trans (shal_depth _ _ h4) (by decide), Sh.fit_none h2, cmpD_eq _ _ al⟩
    · cases h
def dLt : F2 := fun x y => (ltD x y).map fun b => .bool b
def dGt : F2 := fun x y => (ltD y x).map fun b => .bool b
def dLe : F2 := fun x y => (ltD y x).map fun b => .bool (!b)
def dGe : F2 := fun x y => (ltD x y).map fun b => .bool (!b)
theorem o_lt (c : Cal X) : OpR X (compareOp .Lt) (rLtP X.K fun d e => PySem.W.dataLt d e) ∧ OpD X.K (rLtP X.K fun d e => PySem.W.dataLt d e) dLt := by
  refine ⟨op_ltP c, fun g H S x y dx dy dz Q rs rx ry e k => ?_⟩
  unfold dLt at e
  simp only [Option.map_eq_some_iff] at e
  obtain ⟨b, e1, rfl⟩ := e
  obtain ⟨h1, h2, h3, h4, h5, h6, h7⟩ := ltD_ok e1
  exact ⟨dx, dy, rx.dp, ry.dp, h1, h3, h4, by subst h7; exact k _ _ .rfl' (.bl _)⟩
theorem o_gt (c : Cal X) : OpR X (compareOp .Gt) (rLtP X.K fun d e => PySem.W.dataLt e d) ∧ OpD X.K (rLtP X.K fun d e => PySem.W.dataLt e d) dGt := by
  refine ⟨op_gtP c, fun g H S x y dx dy dz Q rs rx ry e k => ?_⟩
  unfold dGt at e
  simp only [Option.map_eq_some_iff] at e
  obtain ⟨b, e1, rfl⟩ := e
  obtain ⟨h1, h2, h3, h4, h5, h6, h7⟩ := ltD_ok e1
  exact ⟨dx, dy, rx.dp, ry.dp, h2, h6, h5, by subst h7; exact k _ _ .rfl' (.bl _)⟩
theorem o_le (c : Cal X) : OpR X (compareOp .LtE) (rLtP X.K fun d e => !PySem.W.dataLt e d) ∧ OpD X.K (rLtP X.K fun d e => !PySem.W.dataLt e d) dLe := by
  refine ⟨op_leP c, fun g H S x y dx dy dz Q rs rx ry e k => ?_⟩
  unfold dLe at e
  simp only [Option.map_eq_some_iff] at e
  obtain ⟨b, e1, rfl⟩ := e
  obtain ⟨h1, h2, h3, h4, h5, h6, h7⟩ := ltD_ok e1
  exact ⟨dx, dy, rx.dp, ry.dp, h2, h6, h5, by subst h7; exact k _ _ .rfl' (.bl _)⟩
theorem o_ge (c : Cal X) : OpR X (compareOp .GtE) (rLtP X.K fun d e => !PySem.W.dataLt d e) ∧ OpD X.K (rLtP X.K fun d e => !PySem.W.dataLt d e) dGe := by
  refine ⟨op_geP c, fun g H S x y dx dy dz Q rs rx ry e k => ?_⟩
  unfold dGe at e
  simp only [Option.map_eq_some_iff] at e
  obtain ⟨b, e1, rfl⟩ := e
  obtain ⟨h1, h2, h3, h4, h5, h6, h7⟩ := ltD_ok e1
  exact ⟨dx, dy, rx.dp, ry.dp, h1, h3, h4, by subst h7; exact k _ _ .rfl' (.bl _)⟩
/-! ### in, not in -/
def seqD : PyData → Option (List PyData)
  | .list xs => some xs
  | .tuple xs => some xs
  | _ => none
def rInP (K : PySem.W.Frag) (neg : Bool) : R2 := fun x y H Q => ∃ d ds, Dp K H x d ∧ (Dp K H y (.list ds) ∨ Dp K H y (.tuple ds)) ∧ d.plain = true ∧ PyData.plainAll ds = true ∧ d.depth ≤ 60 ∧ Q (.bl (if neg then !ds.any (fun z => PyData.eqv z d) else ds.any fun z => PyData.eqv z d)) H
theorem op_inP (c : Cal X) : OpR X (compareOp .In) (rInP X.K false) := by
  intro pins s σ H x y v u Q I rx ry h
  obtain ⟨d, ds, hd, he, pd, pe, hm, q⟩ := h
  obtain ⟨as, r1⟩ := Dp.reads I d x v hd rx
  have hu : X.A.units + 1 + min (PyData.depthAll ds) d.depth < cLine := by have := c.hu; have := Nat.min_le_right (PyData.depthAll ds) d.depth; omega
  rcases he with he | he
  · obtain ⟨bs, r2⟩ := Dp.reads I _ y u he ry
    exact SeqAt.in_list_data r2 r1 pe pd hu ⟨.bl _, H, I, rfl, q⟩
  · obtain ⟨bs, r2⟩ := Dp.reads I _ y u he ry
    exact SeqAt.in_tuple_data r2 r1 pe pd hu ⟨.bl _, H, I, rfl, q⟩
theorem op_ninP (c : Cal X) : OpR X (compareOp .NotIn) (rInP X.K true) := by
  intro pins s σ H x y v u Q I rx ry h
  obtain ⟨d, ds, hd, he, pd, pe, hm, q⟩ := h
  obtain ⟨as, r1⟩ := Dp.reads I d x v hd rx
  have hu : X.A.units + 1 + min (PyData.depthAll ds) d.depth < cLine := by have := c.hu; have := Nat.min_le_right (PyData.depthAll ds) d.depth; omega
  rcases he with he | he
  · obtain ⟨bs, r2⟩ := Dp.reads I _ y u he ry
    exact SeqAt.notIn_list_data r2 r1 pe pd hu ⟨.bl _, H, I, rfl, q⟩
  · obtain ⟨bs, r2⟩ := Dp.reads I _ y u he ry
    exact SeqAt.notIn_tuple_data r2 r1 pe pd hu ⟨.bl _, H, I, rfl, q⟩
def dIn : F2 := fun x y => if shal 9 x then (seqD y).map fun ds => .bool (ds.any fun z => PyData.eqv z x) else none
def dNin : F2 := fun x y => if shal 9 x then (seqD y).map fun ds => .bool (!ds.any fun z => PyData.eqv z x) else none
theorem seqD_ok {y : PyData} {ds : List PyData} (h : seqD y = some ds) : y = .list ds ∨ y = .tuple ds := by
  cases y <;> cases h
  · exact .inl rfl
  · exact .inr rfl
theorem o_in (c : Cal X) : OpR X (compareOp .In) (rInP X.K false) ∧ OpD X.K (rInP X.K false) dIn := by
  refine ⟨op_inP c, fun g H S x y dx dy dz Q rs rx ry e k => ?_⟩
  unfold dIn at e
  split at e
  · rename_i h
    simp only [Option.map_eq_some_iff] at e
    obtain ⟨ds, e1, rfl⟩ := e
    rcases seqD_ok e1 with rfl | rfl
    · exact ⟨dx, ds, rx.dp, .inl ry.dp, rx.plain, by have := ry.plain; rwa [PyData.plain] at this, Nat.le_trans (shal_depth _ _ h) (by decide), k _ _ .rfl' (.bl _)⟩
    · exact ⟨dx, ds, rx.dp, .inr ry.dp, rx.plain, by have := ry.plain; rwa [PyData.plain] at this, Nat.le_trans (shal_depth _ _ h) (by decide), k _ _ .rfl' (.bl _)⟩
  · cases e
theorem o_nin (c : Cal X) : OpR X (compareOp .NotIn) (rInP X.K true) ∧ OpD X.K (rInP X.K true) dNin := by
  refine ⟨op_ninP c, fun g H S x y dx dy dz Q rs rx ry e k => ?_⟩
  unfold dNin at e
  split at e
  · rename_i h
    simp only [Option.map_eq_some_iff] at e
    obtain ⟨ds, e1, rfl⟩ := e
    rcases seqD_ok e1 with rfl | rfl
    · exact ⟨dx, ds, rx.dp, .inl ry.dp, rx.plain, by have := ry.plain; rwa [PyData.plain] at this, Nat.le_trans (shal_depth _ _ h) (by decide), k _ _ .rfl' (.bl _)⟩
    · exact ⟨dx, ds, rx.dp, .inr ry.dp, rx.plain, by have := ry.plain; rwa [PyData.plain] at this, Nat.le_trans (shal_depth _ _ h) (by decide), k _ _ .rfl' (.bl _)⟩
  · cases e
/-! ### is, is not (None, True, False) -/
def nonD : PyData → Bool
  | .none => true
  | _ => false
def dIs : F2
  | x, .none => some (.bool (nonD x))
  | .bool a, .bool b => some (.bool (a == b))
  | _, _ => none
def dIsN : F2
  | x, .none => some (.bool (!nonD x))
  | .bool a, .bool b => some (.bool (!(a == b)))
  | _, _ => none
def rIsN0 : R2 := fun x y H Q => y = .non ∧ Q (.bl (decide (x = .non))) H
def rNotN0 : R2 := fun x y H Q => y = .non ∧ Q (.bl (!decide (x = .non))) H
theorem isn {K : PySem.W.Frag} {g : G} {H : Hp} {x : V} {d : PyData} (h : RT K g H x d) : decide (x = V.non) = nonD d := by
  cases d with
  | none => exact decide_eq_true (h.none_iff.mpr rfl)
  | _ => exact decide_eq_false fun z => by have := h.none_iff.mp z; cases this
theorem o_is : OpR X (compareOp .Is) (fun x y H Q => rIsN0 x y H Q ∨ rIsB x y H Q) ∧ OpD X.K (fun x y H Q => rIsN0 x y H Q ∨ rIsB x y H Q) dIs := by
  refine ⟨op_isN.or op_isBl, fun g H S x y dx dy dz Q rs rx ry e k => ?_⟩
  unfold dIs at e
  split at e
  · cases e
    refine .inl ⟨ry.none_iff.mpr rfl, ?_⟩
    rw [isn rx]
    exact k _ _ .rfl' (.bl _)
  · cases e
    refine .inr ⟨_, _, rx.bl, ry.bl, ?_⟩
    rw [show ∀ a b : Bool, decide (a = b) = (a == b) from fun a b => by cases a <;> cases b <;> rfl]
    exact k _ _ .rfl' (.bl _)
  · cases e
theorem o_isN : OpR X (compareOp .IsNot) (fun x y H Q => rNotN0 x y H Q ∨ rNotB x y H Q) ∧ OpD X.K (fun x y H Q => rNotN0 x y H Q ∨ rNotB x y H Q) dIsN := by
  refine ⟨op_notN.or op_notBl, fun g H S x y dx dy dz Q rs rx ry e k => ?_⟩
  unfold dIsN at e
  split at e
  · cases e
    refine .inl ⟨ry.none_iff.mpr rfl, ?_⟩
    rw [isn rx]
    exact k _ _ .rfl' (.bl _)
  · cases e
    refine .inr ⟨_, _, rx.bl, ry.bl, ?_⟩
    rw [show ∀ a b : Bool, decide (a = b) = (a == b) from fun a b => by cases a <;> cases b <;> rfl]
    exact k _ _ .rfl' (.bl _)
  · cases e
end
end Ev
set_option linter.all false
set_option maxRecDepth 100000
set_option maxHeartbeats 4000000
/-! Ev5: subscripts, slices, calls of built-ins. -/
namespace Ev
open PySem PySem.Spec PyProof.Rows L2
section
variable {X : Cx} {a b : Expr} {ma mb : M Wv} {pos : Pos}
/-! ### x[i] -/
def ixD {α : Type} (xs : List α) : Int → Option α
  | .ofNat n => xs[n]?
  | .negSucc n => let l := xs.length; if Nat.blt n l then xs[l - (n + 1)]? else none
theorem ixD_at {α : Type} {xs : List α} {i : Int} {v : α} (h : ixD xs i = some v) : atI xs i = some v := by
  cases i with
  | ofNat n => exact atI_nat h
  | negSucc n =>
    unfold ixD at h
    simp only at h
    split at h
    · rename_i hn
      have hn := Nat.blt_eq.mp hn
      have e : ixN xs.length (Int.negSucc n) = some (xs.length - (n + 1)) := by
        unfold ixN
        rw [if_neg (by omega), if_pos (by omega)]
        congr 1
        omega
      unfold atI
      rw [e]
      exact h
    · cases h
theorem atI_len {α β : Type} {xs : List α} {ys : List β} (h : xs.length = ys.length) {i : Int} {y : β} (e : atI ys i = some y) : ∃ j : Nat, ys[j]? = some y ∧ ∀ x : α, xs[j]? = some x → atI xs i = some x := by
  unfold atI at e ⊢
  rw [h]
  cases q : ixN ys.length i with
  | none => rw [q] at e; cases e
  | some j =>
    rw [q] at e
    exact ⟨j, e, fun x hx => hx⟩
def dIx : F2
  | .list xs, .int i => ixD xs i
  | .tuple xs, .int i => ixD xs i
  | .str z, .int i => if few z.length then (ixD z.cps.toList i).map fun c => .str ⟨#[c]⟩ else none
  | _, _ => none
theorem d_ix : IxR X (rIx X.K) ∧ OpD X.K (rIx X.K) dIx := by
  refine ⟨ix_seq, fun g H S x y dx dy dz Q rs rx ry e k => ?_⟩
  unfold dIx at e
  split at e
  · obtain ⟨p, xs, rfl, hp, t⟩ := rx.list
    obtain ⟨j, h1, h2⟩ := atI_len t.length (ixD_at e)
    obtain ⟨v, h3, h4⟩ := t.getD h1
    exact .inl ⟨p, xs, _, v, rfl, ry.int, .inl (.inl hp), h2 v h3, k _ _ .rfl' h4⟩
  · obtain ⟨p, xs, rfl, hp, t⟩ := rx.tup
    obtain ⟨j, h1, h2⟩ := atI_len t.length (ixD_at e)
    obtain ⟨v, h3, h4⟩ := t.getD h1
    exact .inr (.inl ⟨p, xs, _, v, rfl, ry.int, hp, h2 v h3, k _ _ .rfl' h4⟩)
  · split at e
    · rename_i hf
      simp only [Option.map_eq_some_iff] at e
      obtain ⟨c, e1, rfl⟩ := e
      exact .inr (.inr ⟨_, _, c, rx.str, ry.int, few_line hf, ixD_at e1, k _ _ .rfl' (.str _)⟩)
    · cases e
  · cases e
theorem ae_ix (ha : AE X a ma) (hb : AE X b mb) (hs : PlainIx b := by intro _ _; rfl) : AE X (.Subscript a b pos) (mBin dIx ma mb) :=
  (pe_ix d_ix.1 ha hb hs).imp fun _ _ _ h => bin_run (ta := tM X.K ma) (tb := tM X.K mb) d_ix.2 h
/-! ### x[lo:hi] -/
def mNoP : M (Option Int) := fun _ S => some (none, S)
def mPart (m : M Wv) : M (Option Int) := fun ρ S => (m ρ S).bind fun p => match p.1 with
  | .d (.int i) => some (some i, p.2)
  | _ => none
def tO' (K : PySem.W.Frag) (m : M (Option Int)) : TO := fun σ H Q => ∃ g S ρ w S', RS K g H S ∧ RE K g H σ ρ ∧ m ρ S = some (w, S') ∧ Fin K g H S' fun _ H' => Q w H'
abbrev AO (X : Cx) (e : Option Expr) (m : M (Option Int)) : Prop := PO X e (tO' X.K m)
theorem _root_.L2.PO.imp {e : Option Expr} {t t' : TO} (h : PO X e t) (k : ∀ σ H Q, t' σ H Q → t σ H Q) : PO X e t' := ⟨fun pins s σ H Q I w => h.run pins s σ H Q I (k _ _ _ w)⟩
theorem ao_no : AO X none mNoP := po_none.imp fun σ H Q ⟨g, S, ρ, w, S', rs, re, e, fin⟩ => by
  cases e
  exact fin g H .refl rs
theorem ao_some (h : AE X a ma) : AO X (some a) (mPart ma) := (po_some h).imp fun σ H Q ⟨g, S, ρ, w, S', rs, re, e, fin⟩ => by
  unfold mPart at e
  simp only [Option.bind_eq_some_iff] at e
  obtain ⟨⟨x, S1⟩, e1, e2⟩ := e
  split at e2
  · rename_i i ei
    cases e2
    have ei : x = .d (.int i) := ei
    subst ei
    refine ⟨g, S, ρ, _, S1, rs, re, e1, fun g1 H1 x1 rs1 v rv => ?_⟩
    cases (rv : R0 X.K g1 H1 v (.int i))
    exact ⟨i, rfl, fin g1 H1 x1 rs1⟩
  · cases e2
abbrev FS := PyData → Option Int → Option Int → Option PyData
def SlD (K : PySem.W.Frag) (r : V → Option Int → Option Int → Hp → VK → Prop) (f : FS) : Prop := ∀ (g : G) (H : Hp) (S : Sto) (x : V) (dx dz : PyData) (lo hi : Option Int) (Q : VK), RS K g H S → RT K g H x dx → f dx lo hi = some dz →
  (∀ v H', Grown H H' → R0 K g H' v dz → Q v H') → r x lo hi H Q
def mSl (f : FS) (a : M Wv) (l h : M (Option Int)) : M Wv := fun ρ S => (a ρ S).bind fun p => (l ρ p.2).bind fun q => (h ρ q.2).bind fun r => (rd r.2 p.1).bind fun x => (f x q.1 r.1).map fun z => (.d z, r.2)
def cutD {α : Type} (xs : List α) (lo hi : Option Int) : List α := (xs.drop (HT.sIx xs.length 0 lo)).take (HT.sIx xs.length xs.length hi - HT.sIx xs.length 0 lo)
theorem cut_rs {K : PySem.W.Frag} {g : G} {H : Hp} {vs : List V} {ds : List PyData} (t : R0s K g H vs ds) (lo hi : Option Int) : R0s K g H (cutV vs lo hi) (cutD ds lo hi) := by
  unfold cutV cutD
  rw [t.length]
  exact (t.drop _).take _
theorem cut_all {α : Type} {xs : List α} {lo hi : Option Int} (h : HT.sIx xs.length 0 lo = 0 ∧ HT.sIx xs.length xs.length hi = xs.length) : cutD xs lo hi = xs := by
  unfold cutD
  rw [h.1, h.2]
  simp
def dSl : FS
  | .list xs, lo, hi => some (.list (cutD xs lo hi))
  | .tuple xs, lo, hi => some (.tuple (cutD xs lo hi))
  | _, _, _ => none
def rSl' (K : PySem.W.Frag) : V → Option Int → Option Int → Hp → VK → Prop := fun x lo hi H Q => rSlL K x lo hi H Q ∨ rSlA K x lo hi H Q
theorem d_sl : SlR X (rSl' X.K) ∧ SlD X.K (rSl' X.K) dSl := by
  refine ⟨sl_list.or sl_tupA, fun g H S x dx dz lo hi Q rs rx e k => ?_⟩
  unfold dSl at e
  split at e
  · cases e
    obtain ⟨p, xs, rfl, hp, t⟩ := rx.list
    exact .inl ⟨p, xs, rfl, .inl (.inl hp), fun p hp => k _ _ (.new hp) (R0.newL rs hp (cut_rs t lo hi))⟩
  · cases e
    have rx' := rx.tup0
    obtain ⟨p, xs, rfl, hp, t⟩ := rx.tup
    refine .inr ⟨p, xs, rfl, hp, fun w => k _ _ .rfl' ?_, fun _ q hq => k _ _ (.new hq) (R0.newT hq (cut_rs t lo hi))⟩
    rw [cut_all (by rw [← t.length]; exact w)]
    exact rx'
  · cases e
theorem ae_sl {lo hi : Option Expr} {ml mh : M (Option Int)} {p2 : Pos} (ha : AE X a ma) (hl : AO X lo ml) (hh : AO X hi mh) : AE X (.Subscript a (.Slice lo hi none p2) pos) (mSl dSl ma ml mh) :=
  PE.imp (pe_slice d_sl.1 ha hl hh) fun σ H Q ⟨g, S, ρ, w, S', rs, re, e, fin⟩ => by
    unfold mSl at e
    simp only [Option.bind_eq_some_iff, Option.map_eq_some_iff] at e
    obtain ⟨⟨x, S1⟩, e1, ⟨y, S2⟩, e2, ⟨z, S3⟩, e3, dx, e4, dz, e5, e6⟩ := e
    cases e6
    exact ⟨g, S, ρ, x, S1, rs, re, e1, fun g1 H1 x1 rs1 v rv => ⟨g1, S1, ρ, y, S2, rs1, re.mono x1, e2, fun g2 H2 x2 rs2 => ⟨g2, S2, ρ, z, S3, rs2, (re.mono x1).mono x2, e3, fun g3 H3 x3 rs3 =>
      d_sl.2 g3 H3 S3 v dx dz y z Q rs3 (rd_rt rs3 ((rv.mono x2).mono x3) e4) e5 fun v' H' gr r0 => fin g3 H' (((x1.trans x2).trans x3).trans gr.ext) (rs3.grown gr) v' r0⟩⟩⟩
/-! ### built-ins on data -/
abbrev FC := List PyData → Option PyData
abbrev RTs (K : PySem.W.Frag) (g : G) (H : Hp) : List V → List PyData → Prop := Paired fun v d => RT K g H v d
def CD (K : PySem.W.Frag) (r : List V → Hp → VK → Prop) (f : FC) : Prop := ∀ (g : G) (H : Hp) (S : Sto) (vs : List V) (ds : List PyData) (dz : PyData) (Q : VK), RS K g H S → RTs K g H vs ds → f ds = some dz →
  (∀ v H', Grown H H' → R0 K g H' v dz → Q v H') → r vs H Q
def rds (S : Sto) : List Wv → Option (List PyData)
  | [] => some []
  | w :: ws => (rd S w).bind fun x => (rds S ws).map (x :: ·)
theorem rds_rt {K : PySem.W.Frag} {g : G} {H : Hp} {S : Sto} (rs : RS K g H S) : ∀ {vs : List V} {ws : List Wv} {ds : List PyData}, RWs K g H vs ws → rds S ws = some ds → RTs K g H vs ds
  | _, _, _, .nil, e => by cases e; exact .nil
  | _, w :: ws, _, .cons h t, e => by
    unfold rds at e
    simp only [Option.bind_eq_some_iff, Option.map_eq_some_iff] at e
    obtain ⟨x, e1, xs, e2, e3⟩ := e
    cases e3
    exact .cons (rd_rt rs h e1) (rds_rt rs t e2)
def mCall (f : FC) (ms : M (List Wv)) : M Wv := fun ρ S => (ms ρ S).bind fun p => (rds p.2 p.1).bind fun ds => (f ds).map fun z => (.d z, p.2)
theorem call_run {K : PySem.W.Frag} {r : List V → Hp → VK → Prop} {f : FC} {ms : M (List Wv)} (hd : CD K r f) {σ : L2.St} {H : Hp} {Q : VK} (h : tM K (mCall f ms) σ H Q) : tCB r (tA' K ms) σ H Q := by
  obtain ⟨g, S, ρ, w, S', rs, re, e, fin⟩ := h
  unfold mCall at e
  simp only [Option.bind_eq_some_iff, Option.map_eq_some_iff] at e
  obtain ⟨⟨ws, S1⟩, e1, ds, e2, dz, e3, e4⟩ := e
  cases e4
  exact ⟨g, S, ρ, ws, S1, rs, re, e1, fun g1 H1 x1 rs1 vs rv => hd g1 H1 S1 vs ds dz Q rs1 (rds_rt rs1 rv e2) e3 fun v' H' gr r0 => fin g1 H' (x1.trans gr.ext) (rs1.grown gr) v' r0⟩
variable {es : List Expr} {e : Expr} {ms : M (List Wv)} {x : Str} {p : Pos} {id T : String} {r : List V → Hp → VK → Prop} {f : FC}
theorem ae_callB (h : CallR X (.builtin id) r ∧ CD X.K r f) (hv : bootBuiltins x = some (.builtin id)) (hm : X.mg x = none) (ha : AA X (e :: es) ms) (hg : Gl X x := by rfl) (hn : x ≠ "__name__" := by decide) (hdb : (x == ("__debug__" : Str)) = false := by decide)
    (he : starEach (e :: es) X.env = (false, eval e X.env) :: starEach es X.env := by rfl) (hpl : (backTo pos (starEach es X.env)).any (·.1) = false := by rfl) : AE X (.Call (.Name x p) (e :: es) [] pos) (mCall f ms) :=
  PE.imp (pe_callB h.1 hg hm hv ha hn hdb he hpl) fun _ _ _ q => call_run h.2 q
theorem ae_callTy (h : CallR X (.type T) r ∧ CD X.K r f) (hv : bootBuiltins x = some (.type T)) (hm : X.mg x = none) (ha : AA X (e :: es) ms) (hg : Gl X x := by rfl) (hn : x ≠ "__name__" := by decide) (hdb : (x == ("__debug__" : Str)) = false := by decide)
    (he : starEach (e :: es) X.env = (false, eval e X.env) :: starEach es X.env := by rfl) (hpl : (backTo pos (starEach es X.env)).any (·.1) = false := by rfl) : AE X (.Call (.Name x p) (e :: es) [] pos) (mCall f ms) :=
  PE.imp (pe_callTy h.1 hg hm hv ha hn hdb he hpl) fun _ _ _ q => call_run h.2 q
theorem rts1 {K : PySem.W.Frag} {g : G} {H : Hp} {vs : List V} {d : PyData} (h : RTs K g H vs [d]) : ∃ v, vs = [v] ∧ RT K g H v d := by
  cases h with
  | cons a b => cases b; exact ⟨_, rfl, a⟩
theorem rts2 {K : PySem.W.Frag} {g : G} {H : Hp} {vs : List V} {d e : PyData} (h : RTs K g H vs [d, e]) : ∃ v u, vs = [v, u] ∧ RT K g H v d ∧ RT K g H u e := by
  cases h with
  | cons a b => cases b with | cons b c => cases c; exact ⟨_, _, rfl, a, b⟩
def dLen : FC
  | [.list xs] => some (.int (xs.length : Nat))
  | [.tuple xs] => some (.int (xs.length : Nat))
  | [.str x] => if few x.length then some (.int (x.length : Nat)) else none
  | _ => none
def rLen' (K : PySem.W.Frag) : List V → Hp → VK → Prop := fun xs H Q => ∃ x n, xs = [x] ∧ LenV K x H n ∧ Q (.int n) H
theorem c_len : CallR X (.builtin "len") (rLen' X.K) ∧ CD X.K (rLen' X.K) dLen := by
  refine ⟨call_len, fun g H S vs ds dz Q rs rv e k => ?_⟩
  unfold dLen at e
  split at e
  · cases e
    obtain ⟨v, rfl, h⟩ := rts1 rv
    obtain ⟨a, xs, rfl, ha, t⟩ := h.list
    refine ⟨_, xs.length, rfl, .inl ⟨xs, .inl (.inl ha), rfl⟩, ?_⟩
    rw [t.length]
    exact k _ _ .rfl' (.int _)
  · cases e
    obtain ⟨v, rfl, h⟩ := rts1 rv
    obtain ⟨a, xs, rfl, ha, t⟩ := h.tup
    refine ⟨_, xs.length, rfl, .inr ⟨xs, ha, rfl⟩, ?_⟩
    rw [t.length]
    exact k _ _ .rfl' (.int _)
  · split at e
    · rename_i hf
      cases e
      obtain ⟨v, rfl, h⟩ := rts1 rv
      cases h.str
      exact ⟨_, _, rfl, ⟨few_line hf, rfl⟩, k _ _ .rfl' (.int _)⟩
    · cases e
  · cases e
def dAbs : FC
  | [.int i] => some (.int (if ilt i 0 then -i else i))
  | _ => none
theorem c_abs : CallR X (.builtin "abs") (fun xs H Q => ∃ i, xs = [.int i] ∧ Q (.int (if i < 0 then -i else i)) H) ∧ CD X.K (fun xs H Q => ∃ i, xs = [.int i] ∧ Q (.int (if i < 0 then -i else i)) H) dAbs := by
  refine ⟨call_abs, fun g H S vs ds dz Q rs rv e k => ?_⟩
  unfold dAbs at e
  split at e
  · rename_i i
    cases e
    obtain ⟨v, rfl, h⟩ := rts1 rv
    cases h.int
    refine ⟨_, rfl, ?_⟩
    have e : (if ilt i 0 = true then -i else i) = (if i < 0 then -i else i) := by rw [ilt_eq]; simp only [decide_eq_true_eq]
    rw [← e]
    exact k _ _ .rfl' (.int _)
  · cases e
def dInt : FC
  | [.int i] => some (.int i)
  | [.bool b] => some (.int (if b then 1 else 0))
  | _ => none
def rInt' : List V → Hp → VK → Prop := fun xs H Q => (∃ i, xs = [.int i] ∧ Q (.int i) H) ∨ ∃ k, xs = [.bl k] ∧ Q (.int (if k then 1 else 0)) H
theorem c_int : CallR X (.type "int") rInt' ∧ CD X.K rInt' dInt := by
  refine ⟨call_int1, fun g H S vs ds dz Q rs rv e k => ?_⟩
  unfold dInt at e
  split at e
  · cases e
    obtain ⟨v, rfl, h⟩ := rts1 rv
    cases h.int
    exact .inl ⟨_, rfl, k _ _ .rfl' (.int _)⟩
  · cases e
    obtain ⟨v, rfl, h⟩ := rts1 rv
    cases h.bl
    exact .inr ⟨_, rfl, k _ _ .rfl' (.int _)⟩
  · cases e
def dMax2 : FC
  | [.int i, .int j] => some (.int (if ilt i j then j else i))
  | _ => none
def dMin2 : FC
  | [.int i, .int j] => some (.int (if ilt j i then j else i))
  | _ => none
theorem c_max2 (c : Cal X) : CallR X (.builtin "max") (fun xs H Q => ∃ i j, xs = [.int i, .int j] ∧ Q (.int (if j > i then j else i)) H) ∧ CD X.K (fun xs H Q => ∃ i j, xs = [.int i, .int j] ∧ Q (.int (if j > i then j else i)) H) dMax2 := by
  refine ⟨call_max2 c.calm, fun g H S vs ds dz Q rs rv e k => ?_⟩
  unfold dMax2 at e
  split at e
  · rename_i i j
    cases e
    obtain ⟨v, u, rfl, h, h2⟩ := rts2 rv
    cases h.int
    cases h2.int
    refine ⟨_, _, rfl, ?_⟩
    have e : (if ilt i j = true then j else i) = (if j > i then j else i) := by rw [ilt_eq]; simp only [decide_eq_true_eq]
    rw [← e]
    exact k _ _ .rfl' (.int _)
  · cases e
theorem c_min2 (c : Cal X) : CallR X (.builtin "min") (fun xs H Q => ∃ i j, xs = [.int i, .int j] ∧ Q (.int (if j < i then j else i)) H) ∧ CD X.K (fun xs H Q => ∃ i j, xs = [.int i, .int j] ∧ Q (.int (if j < i then j else i)) H) dMin2 := by
  refine ⟨call_min2 c.calm, fun g H S vs ds dz Q rs rv e k => ?_⟩
  unfold dMin2 at e
  split at e
  · rename_i i j
    cases e
    obtain ⟨v, u, rfl, h, h2⟩ := rts2 rv
    cases h.int
    cases h2.int
    refine ⟨_, _, rfl, ?_⟩
    have e : (if ilt j i = true then j else i) = (if j < i then j else i) := by rw [ilt_eq]; simp only [decide_eq_true_eq]
    rw [← e]
    exact k _ _ .rfl' (.int _)
  · cases e
def intsD : List PyData → Option (List Int)
  | [] => some []
  | .int i :: r => (intsD r).map (i :: ·)
  | _ :: _ => none
theorem intsD_ok : ∀ {ds : List PyData} {ns : List Int}, intsD ds = some ns → ds = ns.map PyData.int
  | [], _, e => by cases e; rfl
  | .int i :: r, _, e => by
    unfold intsD at e
    simp only [Option.map_eq_some_iff] at e
    obtain ⟨ns, e1, rfl⟩ := e
    rw [intsD_ok e1]
    rfl
  | .none :: _, _, e => by cases e
  | .bool _ :: _, _, e => by cases e
  | .str _ :: _, _, e => by cases e
  | .list _ :: _, _, e => by cases e
  | .tuple _ :: _, _, e => by cases e
  | .dict _ :: _, _, e => by cases e
def blsD : List PyData → Option (List Bool)
  | [] => some []
  | .bool i :: r => (blsD r).map (i :: ·)
  | _ :: _ => none
theorem blsD_ok : ∀ {ds : List PyData} {ns : List Bool}, blsD ds = some ns → ds = ns.map PyData.bool
  | [], _, e => by cases e; rfl
  | .bool i :: r, _, e => by
    unfold blsD at e
    simp only [Option.map_eq_some_iff] at e
    obtain ⟨ns, e1, rfl⟩ := e
    rw [blsD_ok e1]
    rfl
  | .none :: _, _, e => by cases e
  | .int _ :: _, _, e => by cases e
  | .str _ :: _, _, e => by cases e
  | .list _ :: _, _, e => by cases e
  | .tuple _ :: _, _, e => by cases e
  | .dict _ :: _, _, e => by cases e
def dSum : FC
  | [.list xs] => (intsD xs).map fun ns => .int ns.sum
  | _ => none
theorem c_sum (c : Cal X) : CallR X (.builtin "sum") (rSum X.K) ∧ CD X.K (rSum X.K) dSum := by
  refine ⟨cr_sum c.calm, fun g H S vs ds dz Q rs rv e k => ?_⟩
  unfold dSum at e
  split at e
  · simp only [Option.map_eq_some_iff] at e
    obtain ⟨ns, e1, rfl⟩ := e
    obtain ⟨v, rfl, h⟩ := rts1 rv
    obtain ⟨a, xs, rfl, ha, t⟩ := h.list
    rw [intsD_ok e1] at t
    cases t.int_inv
    exact ⟨a, ns, rfl, .inl (.inl ha), k _ _ .rfl' (.int _)⟩
  · cases e
def dAll : FC
  | [.list xs] => (blsD xs).map fun ns => .bool (ns.all _root_.id)
  | _ => none
def dAny : FC
  | [.list xs] => (blsD xs).map fun ns => .bool (ns.any _root_.id)
  | _ => none
theorem c_all (c : Cal X) : CallR X (.builtin "all") (rAll X.K) ∧ CD X.K (rAll X.K) dAll := by
  refine ⟨cr_all c.calm, fun g H S vs ds dz Q rs rv e k => ?_⟩
  unfold dAll at e
  split at e
  · simp only [Option.map_eq_some_iff] at e
    obtain ⟨ns, e1, rfl⟩ := e
    obtain ⟨v, rfl, h⟩ := rts1 rv
    obtain ⟨a, xs, rfl, ha, t⟩ := h.list
    rw [blsD_ok e1] at t
    cases t.bl_inv
    exact ⟨a, ns, rfl, .inl (.inl ha), k _ _ .rfl' (.bl _)⟩
  · cases e
theorem c_any (c : Cal X) : CallR X (.builtin "any") (rAny X.K) ∧ CD X.K (rAny X.K) dAny := by
  refine ⟨cr_any c.calm, fun g H S vs ds dz Q rs rv e k => ?_⟩
  unfold dAny at e
  split at e
  · simp only [Option.map_eq_some_iff] at e
    obtain ⟨ns, e1, rfl⟩ := e
    obtain ⟨v, rfl, h⟩ := rts1 rv
    obtain ⟨a, xs, rfl, ha, t⟩ := h.list
    rw [blsD_ok e1] at t
    cases t.bl_inv
    exact ⟨a, ns, rfl, .inl (.inl ha), k _ _ .rfl' (.bl _)⟩
  · cases e
/-- tuple(x) -/
def dTuple : FC
  | [.list xs] => some (.tuple xs)
  | [.tuple xs] => some (.tuple xs)
  | _ => none
def rTuple' (K : PySem.W.Frag) : List V → Hp → VK → Prop := fun xs H Q => ∃ p ys, xs = [.ref p] ∧ ((SqL K H p ys ∧ ∀ l, H l = none → Q (.ref l) (upd H l (.tup ys))) ∨ (SqT K H p ys ∧ Q (.ref p) H))
theorem c_tuple : CallR X (.type "tuple") (rTuple' X.K) ∧ CD X.K (rTuple' X.K) dTuple := by
  refine ⟨call_tuple_of, fun g H S vs ds dz Q rs rv e k => ?_⟩
  unfold dTuple at e
  split at e
  · cases e
    obtain ⟨v, rfl, h⟩ := rts1 rv
    obtain ⟨a, xs, rfl, ha, t⟩ := h.list
    exact ⟨a, xs, rfl, .inl ⟨.inl (.inl ha), fun l hl => k _ _ (.new hl) (R0.newT hl t)⟩⟩
  · cases e
    obtain ⟨v, rfl, h⟩ := rts1 rv
    have h0 := h.tup0
    obtain ⟨a, xs, rfl, ha, t⟩ := h.tup
    exact ⟨a, xs, rfl, .inr ⟨ha, k _ _ .rfl' h0⟩⟩
  · cases e
/-- gcd, a name that the module has from math -/
def dGcd : FC
  | [.int i, .int j] => some (.int ((Nat.gcd i.natAbs j.natAbs : Nat) : Int))
  | _ => none
theorem c_gcd : CallR X (.builtin "math.gcd") rGcd ∧ CD X.K rGcd dGcd := by
  refine ⟨cr_gcd, fun g H S vs ds dz Q rs rv e k => ?_⟩
  unfold dGcd at e
  split at e
  · cases e
    obtain ⟨v, u, rfl, h, h2⟩ := rts2 rv
    cases h.int
    cases h2.int
    exact ⟨_, _, rfl, k _ _ .rfl' (.int _)⟩
  · cases e
theorem ae_callG (h : CallR X (.builtin id) r ∧ CD X.K r f) (hm : X.mg x = some (.builtin id)) (ha : AA X (e :: es) ms) (hg : Gl X x := by rfl) (hdb : (x == ("__debug__" : Str)) = false := by decide)
    (he : starEach (e :: es) X.env = (false, eval e X.env) :: starEach es X.env := by rfl) (hpl : (backTo pos (starEach es X.env)).any (·.1) = false := by rfl) : AE X (.Call (.Name x p) (e :: es) [] pos) (mCall f ms) :=
  PE.imp (pe_callBfun h.1 hg hm ha hdb he hpl) fun _ _ _ q => call_run h.2 q
end
end Ev
set_option linter.all false
set_option maxRecDepth 100000
set_option maxHeartbeats 4000000
/-! Ev6: enumerate of a tuple; what loops walk. -/
namespace Ev
open PySem PySem.Spec PyProof.Rows L2
open Sem (wp)
/-! ### enumerate(v), no start -/
set_option maxHeartbeats 1000000 in
theorem meets_enumerate_newB0 {v : Value} {o : Obj} {H : Heap → Prop} (B : Begins v o H) :
    Meets (Builtin.«enumerate.__new__» ⟨[.type "enumerate", v], []⟩) (fun _ R s => H s.heap ∧
      R (.ok (.ret (.ref (s.heap.push o).objs.size))) { s with heap := (s.heap.push o).push { cls := .type "enumerate", data := .fields #[.none, .bool false, .ref s.heap.objs.size, rawInt 0, .none, .none] } }) :=
  .of_wp fun prog w A R s h => by
    obtain ⟨hp, g, d, tk, os⟩ := s; obtain ⟨h1, h⟩ := h
    have hsub := sub_enumerate
    have q1 : ∀ {A' : Around} {E : Value → Shared → Prop} {Q : Value → Shared → Prop}, Q (.ref hp.objs.size) ⟨hp.push o, g, d, tk, os⟩ → wpAny (model prog w) A' (pyIter v) Q E ⟨hp, g, d, tk, os⟩ :=
      fun q => B.iter prog w _ _ ⟨hp, g, d, tk, os⟩ _ h1 q
    wp_walk using q1
    refine wpAny_stack_any fun st => wpAny_pure ?_
    split
    · rename_i c _ _ _ _ _
      cases (c == Value.type "enumerate")
      · wp_walk using q1
        exact ⟨_, rfl, h⟩
      · wp_walk using q1
        exact ⟨_, rfl, h⟩
    · wp_walk using q1
      exact ⟨_, rfl, h⟩
theorem enum_begins0 {prog : Program} {w : World} {A : Around} {E : Value → Shared → Prop} {s : Shared} {v : Value} {o : Obj} {H : Heap → Prop} {Q : Value → Shared → Prop} (B : Begins v o H) (h1 : H s.heap)
    (h : ∀ h', IsEnum h' (s.heap.objs.size + 1) s.heap.objs.size 0 .none → h'.get? s.heap.objs.size = some o → h'.objs.size = s.heap.objs.size + 2 →
      (∀ b o, s.heap.get? b = some o → h'.get? b = some o) → Q (.ref (s.heap.objs.size + 1)) { s with heap := h' }) :
    wpAny (model prog w) A (call (.type "enumerate") [v]) Q E s := by
  refine callType_new F.called_enumerate (by decide) (F.typeCall_enumerate_1 _) (F.newCall_enumerate_1 _) (fun obj => F.args_object_init_2 obj _) F.entry_enumerate_new
    (meets_enumerate_newB0 B) ⟨h1, ?_⟩
  have hz : (s.heap.push o).objs.size = s.heap.objs.size + 1 := Heap.size_push ..
  show _ ∧ _
  rw [hz]
  have he : IsEnum ((s.heap.push o).push { cls := .type "enumerate", data := .fields #[.none, .bool false, .ref s.heap.objs.size, rawInt 0, .none, .none] }) (s.heap.objs.size + 1) s.heap.objs.size 0 .none := by
    have := Heap.get?_push_size (s.heap.push o) (o := { cls := .type "enumerate", data := .fields #[.none, .bool false, .ref s.heap.objs.size, rawInt 0, .none, .none] }) rfl
    rw [hz] at this; exact this
  refine ⟨⟨_, he, rfl⟩, h _ he (Heap.get?_push_of_some _ (Heap.get?_push_size _ B.free)) (by rw [Heap.size_push, hz]) fun b o x => Heap.get?_push_of_some _ (Heap.get?_push_of_some _ x)⟩
/-! ### enumerate(tuple) -/
def IteT (K : PySem.W.Frag) (a : Addr) : It :=
  ⟨fun i H => ∃ (xs : List V) (x : V), SqT K H a xs ∧ xs[i]? = some x, fun i H v H' => ∃ T x, v = .ref T ∧ H T = none ∧ H' = upd H T (.tup [.int (i : Nat), x]) ∧ ∀ xs, SqT K H a xs → xs[i]? = some x, fun i H => ∃ xs : List V, SqT K H a xs ∧ xs.length ≤ i⟩
theorem turn_enumT {P : Program} {w : World} {K : PySem.W.Frag} {elts : List Expr} {kk : Nat} {tpos : Pos} (a e it : Addr) :
    Turn P w K (.Tuple elts kk tpos) (IteT K a) [e, it] e (fun i h => (∃ old, IsEnum h e it ((i : Nat) : Int) old) ∧ h.IsTupleIter it a i ∧ e ≠ it) where
  mem := by simp
  obj := fun i h st b hb => by
    obtain ⟨⟨old, he⟩, ⟨o, ho, hc, hd⟩, _⟩ := st
    have e' : b = e ∨ b = it := by simpa using hb
    rcases e' with z | z
    · rw [z]; exact ⟨_, he, fun v q => nomatch q⟩
    · rw [z]; exact ⟨o, ho, fun v q => by rw [hd] at q; cases q⟩
  keep := fun i h h' st k => let ⟨⟨old, he⟩, hi, hne⟩ := st; ⟨⟨old, k e (by simp) _ he⟩, hi.at fun o q => k it (by simp) o q, hne⟩
  item := by
    intro X hP hw hK hc i pins s σ H E I hf st hg
    subst hP hw hK
    obtain ⟨⟨old, he⟩, hit, hne⟩ := st
    obtain ⟨xs, x, hq, hx⟩ := hg
    obtain ⟨its, rv, p, hz⟩ := I.tuple hq
    obtain ⟨u, hu, ru⟩ := rv.get hx
    have hel : e < s.heap.objs.size := Heap.lt_size he
    have hil : it < s.heap.objs.size := by obtain ⟨_, q, _⟩ := hit; exact Heap.lt_size q
    have hai : a ≠ it := fun z => by
      obtain ⟨o1, e1, c1, _⟩ := id hit
      obtain ⟨o2, e2, c2, _⟩ := id p
      rw [z] at e2
      rw [e1] at e2
      cases e2
      rw [c1] at c2
      simp at c2
    have hae : e ≠ a := fun z => by
      obtain ⟨o2, e2, c2, _⟩ := id p
      rw [← z, he] at e2
      cases e2
      simp at c2
    have hil' : i < its.toArray.size := by
      have := (List.getElem?_eq_some_iff.mp hu).1
      simpa using this
    refine wpAny_pyNext_enum_itemC (Draws.tuple (A := X.A.in1) (I.ok.hd hc) it a hai its.toArray) he ⟨hit, p⟩ hil' hne (by intro z; rcases List.mem_cons.mp z with z | z; exact hne z; exact hae (by simpa using z)) fun x' h' tk hP ho hst' hT hsz hk => ?_
    have hx' : x' = u := by
      have : its[i]? = some x' := by simpa using hP
      rw [hu] at this
      exact (Option.some.inj this).symm
    subst hx'
    refine ⟨_, rfl, wpAny_letOwnedTupleGo_enum (s := { s with heap := h', toks := tk + 1 }) ho fun h'' he' sb => ?_⟩
    have hT2 : h''.get? s.heap.objs.size = some { cls := .type "tuple", data := .seq #[.int i tk, x'] } := (sb.2 _ (Nat.ne_of_gt hel)).trans hT
    have new : ObjOk X.prog X.w (upd H s.heap.objs.size (.tup [.int (i : Nat), x])) h'' s.heap.objs.size (.tup [.int (i : Nat), x]) :=
      ⟨by show 2 ≤ sizeLine; decide, [.int i tk, x'], .cons ⟨_, rfl⟩ (.cons ru .nil), ⟨_, hT2, rfl, _, rfl⟩⟩
    have I1 : Inv X pins σ (upd H s.heap.objs.size (.tup [.int (i : Nat), x])) { s with heap := h'', toks := tk + 1 } :=
      I.turnedNew (ch := [e, it]) (fun b ob hb q => (sb.2 b (fun z => hb (by simp [z]))).trans (hk b ob (fun z => hb (by simp [z])) (fun z => hb (by simp [z])) q)) hf (Nat.le_refl _) new
    refine ⟨.ref s.heap.objs.size, _, I1, rfl, ⟨_, x, rfl, I.hok.fresh (Nat.le_refl _), rfl, fun ys hy => by rw [I.tuple_inj hy hq]; exact hx⟩, ⟨⟨x', ?_⟩, hst'.1.at fun o q => (sb.2 it (Ne.symm hne)).trans q, hne⟩, fun b hb => ?_⟩
    · have e1 : ((i + 1 : Nat) : Int) = (i : Int) + 1 := by omega
      rw [e1]; exact he'
    · have hb' : b < s.heap.objs.size := by
        have e' : b = e ∨ b = it := by simpa using hb
        rcases e' with z | z
        · rw [z]; exact hel
        · rw [z]; exact hil
      rw [upd_ne (Nat.ne_of_lt hb')]
      exact (hf b hb).1
  done := by
    intro X hP hw hK hc i pins s σ H E I hf st hg
    subst hP hw hK
    obtain ⟨⟨old, he⟩, hit, hne⟩ := st
    obtain ⟨xs, hq, hx⟩ := hg
    obtain ⟨its, rv, p, hz⟩ := I.tuple hq
    obtain ⟨f0, f1, f2, f3, f4, f5⟩ := hf it (by simp)
    have hl := rv.length
    have hai : a ≠ it := fun z => by
      obtain ⟨o1, e1, c1, _⟩ := id hit
      obtain ⟨o2, e2, c2, _⟩ := id p
      rw [z] at e2
      rw [e1] at e2
      cases e2
      rw [c1] at c2
      simp at c2
    by_cases hin : i = its.toArray.size
    · subst hin
      exact wpAny_pyNext_enum_endD (Draws.tuple (A := X.A.in1) (I.ok.hd hc) it a hai its.toArray) he ⟨hit, p⟩ fun h' eb => ⟨rfl, I.turned (t' := s.toks) (fun b o hb q => eb b o hb q) f0 f1 f3 f4 f5⟩
    · have D : Draws X.prog X.w X.A.in1 it [it, a] i (fun _ _ => False) (fun j h => j = i ∧ h.IsTupleIter it a i ∧ h.IsTuple a its.toArray) :=
        { live := fun j h st => let ⟨o, ho, _⟩ := st.2.1; ⟨o, ho⟩
          frame := fun j h h' st hk => ⟨st.1, st.2.1.at fun o e => hk it (by simp) o e, st.2.2.at fun o e => hk a (by simp) o e⟩
          item := fun j s Q E hi st => absurd st.1 (Nat.ne_of_lt hi)
          done := fun s Q E st hE => wpAny_nextOf_tuple_end (A := X.A.in1) (I.ok.hd hc) st.2.1 st.2.2 (by simp; omega) hE }
      exact wpAny_pyNext_enum_endD D he ⟨rfl, hit, p⟩ fun h' eb => ⟨rfl, I.turned (t' := s.toks) (fun b o hb q => eb b o hb q) f0 f1 f3 f4 f5⟩
  self := fun A i s Q E st h => let ⟨⟨_, he⟩, _⟩ := st; wpAny_pyIter_enum he h
def iEnumA (K : PySem.W.Frag) (ta : TA) : TI := fun σ H R => ta σ H fun vs H1 => ∃ a xs, vs = [.ref a] ∧ ((SqL K H1 a xs ∧ R (Ite K a) H1) ∨ (SqT K H1 a xs ∧ R (IteT K a) H1))
theorem pi_enumA {X : Cx} {e : Expr} {ta : TA} {p pos tpos : Pos} {elts : List Expr} {kk : Nat} (hg : Gl X "enumerate") (hm : X.mg "enumerate" = none) (ha : PA X [e] ta) (hs : starEach [e] X.env = [(false, eval e X.env)] := by rfl) :
    PI X (.Tuple elts kk tpos) (.Call (.Name "enumerate" p) [e] [] pos) (iEnumA X.K ta) := by
  refine ⟨fun pins s σ H R I h => ?_⟩
  refine Call_ (ld_blt I hg hm boot_enumerate (PyProof.Rows.callWith_type1 (thn (ha.run pos pins s σ H _ I h) fun us s1 ⟨vs, H1, I1, r1, q1⟩ => ?_) hs rfl))
  obtain ⟨a, xs, ex, hqq⟩ := q1
  subst ex
  cases r1 with
  | cons r rr =>
    cases rr
    cases r
    have fin : ∀ {h' : Heap} {tn : Nat → Heap → Prop} {J : It}, (∀ b o, s1.heap.get? b = some o → h'.get? b = some o) → Turn X.prog X.w X.K (.Tuple elts kk tpos) J [s1.heap.objs.size + 1, s1.heap.objs.size] (s1.heap.objs.size + 1) tn → tn 0 h' → R J H1 →
        PIE X pins σ (.Tuple elts kk tpos) R (.ref (s1.heap.objs.size + 1)) { s1 with heap := h' } := fun {h' tn J} hk T t0 q => by
      have I2 : Inv X pins σ H1 { s1 with heap := h' } := I1.kept (t' := s1.toks) hk
      refine ⟨s1.heap.objs.size + 1, [s1.heap.objs.size + 1, s1.heap.objs.size], tn, J, H1, rfl, I2, T, t0, fun b hb => ?_, q⟩
      have e' : b = s1.heap.objs.size + 1 ∨ b = s1.heap.objs.size := by simpa using hb
      have hle : s1.heap.objs.size ≤ b := by
        rcases e' with z | z
        · rw [z]; exact Nat.le_add_right _ _
        · rw [z]; exact Nat.le_refl _
      exact I1.fpOk hle (I1.hok.fresh hle)
    rcases hqq with ⟨hq, q⟩ | ⟨hq, q⟩
    · obtain ⟨its, rv, p', hz⟩ := I1.list hq
      refine call_enumerate_list p'.isList fun h' he hit hsz hk => wpAny_pyIter_enum he ?_
      exact fin hk (turn_enum a (s1.heap.objs.size + 1) s1.heap.objs.size) ⟨⟨.none, he⟩, hit, Nat.succ_ne_self _⟩ q
    · obtain ⟨its, rv, p', hz⟩ := I1.tuple hq
      refine enum_begins0 (begins_tuple a its.toArray) p' fun h' he hit hsz hk => wpAny_pyIter_enum he ?_
      exact fin hk (turn_enumT a (s1.heap.objs.size + 1) s1.heap.objs.size) ⟨⟨.none, he⟩, ⟨_, hit, rfl, rfl⟩, Nat.succ_ne_self _⟩ q
/-- a list or a tuple, walked -/
def iSeq (K : PySem.W.Frag) (tl : TE) : TI := fun σ H R => tl σ H fun x H1 => ∃ a, x = .ref a ∧ (((∃ xs, SqL K H1 a xs) ∧ R (Itl K a) H1) ∨ ((∃ xs, SqT K H1 a xs) ∧ R (Itt K a) H1))
theorem pi_seq {X : Cx} {tg l : Expr} {tl : TE} (hl : PE X l tl) : PI X tg l (iSeq X.K tl) := by
  refine ⟨fun pins s σ H R I h => ?_⟩
  refine thn (hl.run pins s σ H _ I h) fun v s1 ⟨x, H1, I1, r1, q1⟩ => ?_
  obtain ⟨a, e, hqq⟩ := q1
  subst e
  cases r1
  rcases hqq with ⟨⟨xs, hq⟩, q⟩ | ⟨⟨xs, hq⟩, q⟩
  · obtain ⟨its, rv, p, hz⟩ := I1.list hq
    refine wpAny_pyIter_list p.isList ?_
    refine ⟨s1.heap.objs.size, [s1.heap.objs.size], _, _, H1, rfl, I1.kept (t' := s1.toks) fun b o e => Heap.get?_push_of_some _ e, turn_list a _, ⟨_, Heap.get?_push_size _ rfl, rfl, rfl⟩, fun b hb => ?_, q⟩
    have e : b = s1.heap.objs.size := by simpa using hb
    subst e
    exact I1.fpOk (Nat.le_refl _) (I1.hok.fresh (Nat.le_refl _))
  · obtain ⟨its, rv, p, hz⟩ := I1.tuple hq
    refine wpAny_pyIter_tuple (show s1.heap.IsTuple a its.toArray from p) ?_
    refine ⟨s1.heap.objs.size, [s1.heap.objs.size], _, _, H1, rfl, I1.kept (t' := s1.toks) fun b o e => Heap.get?_push_of_some _ e, turn_tuple a _, ⟨_, Heap.get?_push_size _ rfl, rfl, rfl⟩, fun b hb => ?_, q⟩
    have e : b = s1.heap.objs.size := by simpa using hb
    subst e
    exact I1.fpOk (Nat.le_refl _) (I1.hok.fresh (Nat.le_refl _))
end Ev
set_option linter.all false
set_option maxRecDepth 100000
set_option maxHeartbeats 4000000
/-! Ev7: targets, loops, comprehensions. -/
namespace Ev
open PySem PySem.Spec PyProof.Rows L2
/-! ### what is walked -/
/-- the i-th item, none: the end -/
abbrev Src := Nat → Sto → Option (Option PyData)
structure Wk (K : PySem.W.Frag) (g : G) (H : Hp) (J : It) (src : Src) : Prop where
  go : ∀ (i : Nat) (g1 : G) (H1 : Hp) (S1 : Sto) (d : PyData), Mo g H g1 H1 → RS K g1 H1 S1 → src i S1 = some (some d) → J.go i H1
  stop : ∀ (i : Nat) (g1 : G) (H1 : Hp) (S1 : Sto), Mo g H g1 H1 → RS K g1 H1 S1 → src i S1 = some none → J.stop i H1
  yld : ∀ (i : Nat) (g1 : G) (H1 : Hp) (S1 : Sto) (d : PyData) (x : V) (H2 : Hp), Mo g H g1 H1 → RS K g1 H1 S1 → src i S1 = some (some d) → J.yld i H1 x H2 → Grown H1 H2 ∧ R0 K g1 H2 x d
def tI (K : PySem.W.Frag) (m : M (Src × Nat)) : TI := fun σ H R => ∃ g S ρ p S', RS K g H S ∧ RE K g H σ ρ ∧ m ρ S = some (p, S') ∧ Fin K g H S' fun g' H' => ∀ J, Wk K g' H' J p.1 → R J H'
abbrev AI (X : Cx) (tg e : Expr) (m : M (Src × Nat)) : Prop := PI X tg e (tI X.K m)
theorem _root_.L2.PI.imp {X : Cx} {tg e : Expr} {t t' : TI} (h : PI X tg e t) (k : ∀ σ H R, t' σ H R → t σ H R) : PI X tg e t' := ⟨fun pins s σ H R I w => h.run pins s σ H R I (k _ _ _ w)⟩
def srcL (ds : List PyData) : Src := fun i _ => some ds[i]?
def srcC (n : Nat) : Src := fun i S => match S[n]? with
  | some (.lst xs) => some xs[i]?
  | _ => none
def srcR (lo : Int) (n : Nat) : Src := fun i _ => some (if Nat.blt i n then some (.int (lo + (i : Nat))) else none)
def srcRC (lo c : Int) (n : Nat) : Src := fun i _ => some (if Nat.blt i n then some (.int (lo + (i : Nat) * c)) else none)
def srcE (s : Src) : Src := fun i S => (s i S).map fun o => o.map fun d => .tuple [.int (i : Nat), d]
def zip2 : Option PyData → Option PyData → Option PyData
  | some x, some y => some (.tuple [x, y])
  | _, _ => none
def srcZ (s t : Src) : Src := fun i S => (s i S).bind fun a => (t i S).map fun b => zip2 a b
section
variable {K : PySem.W.Frag} {g : G} {H : Hp}
def LSrc (K : PySem.W.Frag) (g : G) (H : Hp) (a : Addr) (src : Src) : Prop := ∀ (g1 : G) (H1 : Hp) (S1 : Sto) (i : Nat) (o : Option PyData), Mo g H g1 H1 → RS K g1 H1 S1 → src i S1 = some o → ∃ xs ds, SqL K H1 a xs ∧ R0s K g1 H1 xs ds ∧ o = ds[i]?
def TSrc (K : PySem.W.Frag) (g : G) (H : Hp) (a : Addr) (src : Src) : Prop := ∀ (g1 : G) (H1 : Hp) (S1 : Sto) (i : Nat) (o : Option PyData), Mo g H g1 H1 → RS K g1 H1 S1 → src i S1 = some o → ∃ xs ds, SqT K H1 a xs ∧ R0s K g1 H1 xs ds ∧ o = ds[i]?
theorem LSrc.list {a : Addr} {xs : List V} {ds : List PyData} (h : H a = some (.lst xs)) (f : g.fr a) (t : R0s K g H xs ds) : LSrc K g H a (srcL ds) := fun g1 H1 S1 i o x rs e =>
  ⟨xs, ds, .inl (.inl (x.grow _ _ h fun m => absurd m f.1)), t.mo x, (Option.some.inj e).symm⟩
theorem TSrc.tup {a : Addr} {xs : List V} {ds : List PyData} (h : H a = some (.tup xs)) (t : R0s K g H xs ds) : TSrc K g H a (srcL ds) := fun g1 H1 S1 i o x rs e =>
  ⟨xs, ds, .inl (.inl (x.grow _ _ h fun _ => trivial)), t.mo x, (Option.some.inj e).symm⟩
theorem RS.at_lst {S : Sto} (rs : RS K g H S) {n : Nat} {a : Addr} {ds : List PyData} (h : g.al[n]? = some (some a) ∨ g.al[n]? = some none) (e : S[n]? = some (.lst ds)) : g.al[n]? = some (some a) ∧ ∃ xs, H a = some (.lst xs) ∧ R0s K g H xs ds := by
  rcases rs.ok n _ e with ⟨_, z⟩ | ⟨a', ha, c⟩
  · cases z
  · have : a' = a := by
      rcases h with h | h
      · rw [ha] at h; exact Option.some.inj (Option.some.inj h)
      · rw [ha] at h; cases Option.some.inj h
    subst this
    exact ⟨ha, c⟩
theorem LSrc.cell {n : Nat} {a : Addr} (h : g.al[n]? = some (some a) ∨ g.al[n]? = some none) : LSrc K g H a (srcC n) := fun g1 H1 S1 i o x rs e => by
  unfold srcC at e
  split at e
  · rename_i ds hd
    cases e
    have h1 : g1.al[n]? = some (some a) ∨ g1.al[n]? = some none := h.elim (x.live n a) fun h => .inr (x.dead n h)
    obtain ⟨_, xs, h2, t⟩ := rs.at_lst h1 hd
    exact ⟨xs, ds, .inl (.inl h2), t, rfl⟩
  · cases e
theorem wk_list {a : Addr} {src : Src} (h : LSrc K g H a src) : Wk K g H (Itl K a) src := by
  refine ⟨fun i g1 H1 S1 d x rs e => ?_, fun i g1 H1 S1 x rs e => ?_, fun i g1 H1 S1 d v H2 x rs e y => ?_⟩
  · obtain ⟨xs, ds, q, t, e2⟩ := h g1 H1 S1 i _ x rs e
    obtain ⟨v, h1, _⟩ := t.getD e2.symm
    exact ⟨xs, v, q, h1⟩
  · obtain ⟨xs, ds, q, t, e2⟩ := h g1 H1 S1 i _ x rs e
    exact ⟨xs, q, by rw [t.length]; exact List.getElem?_eq_none_iff.mp e2.symm⟩
  · obtain ⟨xs, ds, q, t, e2⟩ := h g1 H1 S1 i _ x rs e
    obtain ⟨rfl, y⟩ := y
    obtain ⟨d', h1, h2⟩ := t.get (y xs q)
    rw [← e2] at h1
    cases h1
    exact ⟨.rfl', h2⟩
theorem wk_tup {a : Addr} {src : Src} (h : TSrc K g H a src) : Wk K g H (Itt K a) src := by
  refine ⟨fun i g1 H1 S1 d x rs e => ?_, fun i g1 H1 S1 x rs e => ?_, fun i g1 H1 S1 d v H2 x rs e y => ?_⟩
  · obtain ⟨xs, ds, q, t, e2⟩ := h g1 H1 S1 i _ x rs e
    obtain ⟨v, h1, _⟩ := t.getD e2.symm
    exact ⟨xs, v, q, h1⟩
  · obtain ⟨xs, ds, q, t, e2⟩ := h g1 H1 S1 i _ x rs e
    exact ⟨xs, q, by rw [t.length]; exact List.getElem?_eq_none_iff.mp e2.symm⟩
  · obtain ⟨xs, ds, q, t, e2⟩ := h g1 H1 S1 i _ x rs e
    obtain ⟨rfl, y⟩ := y
    obtain ⟨d', h1, h2⟩ := t.get (y xs q)
    rw [← e2] at h1
    cases h1
    exact ⟨.rfl', h2⟩
theorem wk_range {lo : Int} {n : Nat} : Wk K g H (Itr lo n) (srcR lo n) := by
  refine ⟨fun i g1 H1 S1 d x rs e => ?_, fun i g1 H1 S1 x rs e => ?_, fun i g1 H1 S1 d v H2 x rs e y => ?_⟩
  · unfold srcR at e
    split at e
    · rename_i h; exact Nat.blt_eq.mp h
    · cases e
  · unfold srcR at e
    split at e
    · cases e
    · rename_i h
      have : ¬ i < n := fun z => h (Nat.blt_eq.mpr z)
      show n ≤ i
      omega
  · unfold srcR at e
    obtain ⟨rfl, rfl⟩ := y
    split at e
    · cases e
      exact ⟨.rfl', .int _⟩
    · cases e
theorem wk_rangeC {lo c : Int} {n : Nat} : Wk K g H (Itc lo c n) (srcRC lo c n) := by
  refine ⟨fun i g1 H1 S1 d x rs e => ?_, fun i g1 H1 S1 x rs e => ?_, fun i g1 H1 S1 d v H2 x rs e y => ?_⟩
  · unfold srcRC at e
    split at e
    · rename_i h; exact Nat.blt_eq.mp h
    · cases e
  · unfold srcRC at e
    split at e
    · cases e
    · rename_i h
      have : ¬ i < n := fun z => h (Nat.blt_eq.mpr z)
      show n ≤ i
      omega
  · unfold srcRC at e
    obtain ⟨rfl, rfl⟩ := y
    split at e
    · cases e
      exact ⟨.rfl', .int _⟩
    · cases e
theorem pair_new {H1 : Hp} {T : Addr} {x y : V} {d e : PyData} (h : H1 T = none) (r1 : R0 K g H1 x d) (r2 : R0 K g H1 y e) : R0 K g (upd H1 T (.tup [x, y])) (.ref T) (.tuple [d, e]) := R0.newT h (.cons r1 (.cons r2 .nil))
theorem srcE_some {s : Src} {i : Nat} {S : Sto} {d : PyData} (e : srcE s i S = some (some d)) : ∃ x, s i S = some (some x) ∧ d = .tuple [.int (i : Nat), x] := by
  unfold srcE at e
  simp only [Option.map_eq_some_iff] at e
  obtain ⟨o, e1, e2⟩ := e
  obtain ⟨x, rfl, rfl⟩ := e2
  exact ⟨x, e1, rfl⟩
theorem srcE_none {s : Src} {i : Nat} {S : Sto} (e : srcE s i S = some none) : s i S = some none := by
  unfold srcE at e
  simp only [Option.map_eq_some_iff] at e
  obtain ⟨o, e1, e2⟩ := e
  cases o with
  | none => exact e1
  | some x => cases e2
theorem wk_enum {a : Addr} {src : Src} (h : LSrc K g H a src) : Wk K g H (Ite K a) (srcE src) := by
  refine ⟨fun i g1 H1 S1 d x rs e => ?_, fun i g1 H1 S1 x rs e => ?_, fun i g1 H1 S1 d v H2 x rs e y => ?_⟩
  · obtain ⟨d', e', rfl⟩ := srcE_some e
    obtain ⟨xs, ds, q, t, e2⟩ := h g1 H1 S1 i _ x rs e'
    obtain ⟨v, h1, _⟩ := t.getD e2.symm
    exact ⟨xs, v, q, h1⟩
  · obtain ⟨xs, ds, q, t, e2⟩ := h g1 H1 S1 i _ x rs (srcE_none e)
    exact ⟨xs, q, by rw [t.length]; exact List.getElem?_eq_none_iff.mp e2.symm⟩
  · obtain ⟨d', e', rfl⟩ := srcE_some e
    obtain ⟨xs, ds, q, t, e2⟩ := h g1 H1 S1 i _ x rs e'
    obtain ⟨T, w, rfl, hT, rfl, y⟩ := y
    obtain ⟨d2, h1, h2⟩ := t.get (y xs q)
    rw [← e2] at h1
    cases h1
    exact ⟨.new hT, pair_new hT (.int _) h2⟩
theorem wk_enumT {a : Addr} {src : Src} (h : TSrc K g H a src) : Wk K g H (IteT K a) (srcE src) := by
  refine ⟨fun i g1 H1 S1 d x rs e => ?_, fun i g1 H1 S1 x rs e => ?_, fun i g1 H1 S1 d v H2 x rs e y => ?_⟩
  · obtain ⟨d', e', rfl⟩ := srcE_some e
    obtain ⟨xs, ds, q, t, e2⟩ := h g1 H1 S1 i _ x rs e'
    obtain ⟨v, h1, _⟩ := t.getD e2.symm
    exact ⟨xs, v, q, h1⟩
  · obtain ⟨xs, ds, q, t, e2⟩ := h g1 H1 S1 i _ x rs (srcE_none e)
    exact ⟨xs, q, by rw [t.length]; exact List.getElem?_eq_none_iff.mp e2.symm⟩
  · obtain ⟨d', e', rfl⟩ := srcE_some e
    obtain ⟨xs, ds, q, t, e2⟩ := h g1 H1 S1 i _ x rs e'
    obtain ⟨T, w, rfl, hT, rfl, y⟩ := y
    obtain ⟨d2, h1, h2⟩ := t.get (y xs q)
    rw [← e2] at h1
    cases h1
    exact ⟨.new hT, pair_new hT (.int _) h2⟩
theorem srcZ_some {s t : Src} {i : Nat} {S : Sto} {d : PyData} (e : srcZ s t i S = some (some d)) : ∃ x y, s i S = some (some x) ∧ t i S = some (some y) ∧ d = .tuple [x, y] := by
  unfold srcZ at e
  simp only [Option.bind_eq_some_iff, Option.map_eq_some_iff] at e
  obtain ⟨a, e1, b, e2, e3⟩ := e
  cases a with
  | none => cases e3
  | some x =>
    cases b with
    | none => cases e3
    | some y =>
      cases e3
      exact ⟨x, y, e1, e2, rfl⟩
theorem srcZ_none {s t : Src} {i : Nat} {S : Sto} (e : srcZ s t i S = some none) : ∃ a b, s i S = some a ∧ t i S = some b ∧ (a = none ∨ b = none) := by
  unfold srcZ at e
  simp only [Option.bind_eq_some_iff, Option.map_eq_some_iff] at e
  obtain ⟨a, e1, b, e2, e3⟩ := e
  refine ⟨a, b, e1, e2, ?_⟩
  cases a with
  | none => exact .inl rfl
  | some x =>
    cases b with
    | none => exact .inr rfl
    | some y => cases e3
theorem wk_zip {a b : Addr} {src src' : Src} (h : LSrc K g H a src) (h' : LSrc K g H b src') : Wk K g H (Itz K a b) (srcZ src src') := by
  refine ⟨fun i g1 H1 S1 d x rs e => ?_, fun i g1 H1 S1 x rs e => ?_, fun i g1 H1 S1 d v H2 x rs e y => ?_⟩
  · obtain ⟨d1, d2, e1, e2, rfl⟩ := srcZ_some e
    obtain ⟨xs, ds, q, t, e3⟩ := h g1 H1 S1 i _ x rs e1
    obtain ⟨ys, es, q', t', e4⟩ := h' g1 H1 S1 i _ x rs e2
    obtain ⟨v, h1, _⟩ := t.getD e3.symm
    obtain ⟨u, h2, _⟩ := t'.getD e4.symm
    exact ⟨xs, ys, v, u, q, q', h1, h2⟩
  · obtain ⟨o1, o2, e1, e2, e5⟩ := srcZ_none e
    obtain ⟨xs, ds, q, t, e3⟩ := h g1 H1 S1 i _ x rs e1
    obtain ⟨ys, es, q', t', e4⟩ := h' g1 H1 S1 i _ x rs e2
    refine ⟨xs, ys, q, q', ?_⟩
    rcases e5 with rfl | rfl
    · exact .inl (by rw [t.length]; exact List.getElem?_eq_none_iff.mp e3.symm)
    · exact .inr (by rw [t'.length]; exact List.getElem?_eq_none_iff.mp e4.symm)
  · obtain ⟨d1, d2, e1, e2, rfl⟩ := srcZ_some e
    obtain ⟨xs, ds, q, t, e3⟩ := h g1 H1 S1 i _ x rs e1
    obtain ⟨ys, es, q', t', e4⟩ := h' g1 H1 S1 i _ x rs e2
    obtain ⟨T, w, z, rfl, hT, rfl, y1, y2⟩ := y
    obtain ⟨c1, h1, h2⟩ := t.get (y1 xs q)
    obtain ⟨c2, h3, h4⟩ := t'.get (y2 ys q')
    rw [← e3] at h1
    rw [← e4] at h3
    cases h1
    cases h3
    exact ⟨.new hT, pair_new hT h2 h4⟩
theorem wk_zipT {a b : Addr} {src src' : Src} (h : TSrc K g H a src) (h' : TSrc K g H b src') : Wk K g H (RZ.ItzT K a b) (srcZ src src') := by
  refine ⟨fun i g1 H1 S1 d x rs e => ?_, fun i g1 H1 S1 x rs e => ?_, fun i g1 H1 S1 d v H2 x rs e y => ?_⟩
  · obtain ⟨d1, d2, e1, e2, rfl⟩ := srcZ_some e
    obtain ⟨xs, ds, q, t, e3⟩ := h g1 H1 S1 i _ x rs e1
    obtain ⟨ys, es, q', t', e4⟩ := h' g1 H1 S1 i _ x rs e2
    obtain ⟨v, h1, _⟩ := t.getD e3.symm
    obtain ⟨u, h2, _⟩ := t'.getD e4.symm
    exact ⟨xs, ys, v, u, q, q', h1, h2⟩
  · obtain ⟨o1, o2, e1, e2, e5⟩ := srcZ_none e
    obtain ⟨xs, ds, q, t, e3⟩ := h g1 H1 S1 i _ x rs e1
    obtain ⟨ys, es, q', t', e4⟩ := h' g1 H1 S1 i _ x rs e2
    refine ⟨xs, ys, q, q', ?_⟩
    rcases e5 with rfl | rfl
    · exact .inl (by rw [t.length]; exact List.getElem?_eq_none_iff.mp e3.symm)
    · exact .inr (by rw [t'.length]; exact List.getElem?_eq_none_iff.mp e4.symm)
  · obtain ⟨d1, d2, e1, e2, rfl⟩ := srcZ_some e
    obtain ⟨xs, ds, q, t, e3⟩ := h g1 H1 S1 i _ x rs e1
    obtain ⟨ys, es, q', t', e4⟩ := h' g1 H1 S1 i _ x rs e2
    obtain ⟨T, w, z, rfl, hT, rfl, y1, y2⟩ := y
    obtain ⟨c1, h1, h2⟩ := t.get (y1 xs q)
    obtain ⟨c2, h3, h4⟩ := t'.get (y2 ys q')
    rw [← e3] at h1
    rw [← e4] at h3
    cases h1
    cases h3
    exact ⟨.new hT, pair_new hT h2 h4⟩
end
/-- a list (true: a tuple), its items, the turns -/
def srcW (S : Sto) : Wv → Option (Bool × Src × Nat)
  | .d (.list xs) => some (false, srcL xs, xs.length + 1)
  | .d (.tuple xs) => some (true, srcL xs, xs.length + 1)
  | .r n => match S[n]? with
    | some (.lst xs) => some (false, srcC n, xs.length + 1)
    | _ => none
  | _ => none
theorem srcW_ok {K : PySem.W.Frag} {g : G} {H : Hp} {S : Sto} {w : Wv} {v : V} {b : Bool} {src : Src} {n : Nat} (rs : RS K g H S) (rv : RW K g H v w) (e : srcW S w = some (b, src, n)) :
    ∃ a, v = .ref a ∧ ((b = false ∧ (∃ xs, SqL K H a xs) ∧ LSrc K g H a src) ∨ (b = true ∧ (∃ xs, SqT K H a xs) ∧ TSrc K g H a src)) := by
  unfold srcW at e
  split at e
  · cases e
    cases (rv : R0 K g H v _) with
    | lst h f t => exact ⟨_, rfl, .inl ⟨rfl, ⟨_, .inl (.inl h)⟩, .list h f t⟩⟩
  · cases e
    cases (rv : R0 K g H v _) with
    | tup h t => exact ⟨_, rfl, .inr ⟨rfl, ⟨_, .inl (.inl h)⟩, .tup h t⟩⟩
  · split at e
    · rename_i xs hx
      cases e
      obtain ⟨a, rfl, ha⟩ := rv
      obtain ⟨h1, vs, h2, t⟩ := rs.at_lst ha hx
      exact ⟨a, rfl, .inl ⟨rfl, ⟨vs, .inl (.inl h2)⟩, .cell ha⟩⟩
    · cases e
  · cases e
section
variable {X : Cx} {tg e : Expr} {m : M Wv} {pos p : Pos}
def mIt (m : M Wv) : M (Src × Nat) := fun ρ S => (m ρ S).bind fun p => (srcW p.2 p.1).map fun q => (q.2, p.2)
theorem ai_seq (h : AE X e m) : AI X tg e (mIt m) :=
  PI.imp (pi_seq h) fun σ H R ⟨g, S, ρ, ds, S', rs, re, e, fin⟩ => by
    unfold mIt at e
    simp only [Option.bind_eq_some_iff, Option.map_eq_some_iff] at e
    obtain ⟨⟨w, S1⟩, e1, ⟨b, src, n⟩, e2, e3⟩ := e
    cases e3
    refine ⟨g, S, ρ, w, S1, rs, re, e1, fun g1 H1 x1 rs1 v rv => ?_⟩
    obtain ⟨a, rfl, ⟨_, q, h⟩ | ⟨_, q, h⟩⟩ := srcW_ok rs1 rv e2
    · exact ⟨a, rfl, .inl ⟨q, fin g1 H1 x1 rs1 _ (wk_list h)⟩⟩
    · exact ⟨a, rfl, .inr ⟨q, fin g1 H1 x1 rs1 _ (wk_tup h)⟩⟩
def mEnum (m : M Wv) : M (Src × Nat) := fun ρ S => (m ρ S).bind fun p => (srcW p.2 p.1).map fun q => ((srcE q.2.1, q.2.2), p.2)
theorem ai_enum {elts : List Expr} {kk : Nat} {tpos : Pos} (h : AE X e m) (hm : X.mg "enumerate" = none) (hg : Gl X "enumerate" := by rfl) (hs : starEach [e] X.env = [(false, eval e X.env)] := by rfl) (hs' : starEach [e] X.env = (false, eval e X.env) :: starEach [] X.env := by rfl) :
    AI X (.Tuple elts kk tpos) (.Call (.Name "enumerate" p) [e] [] pos) (mEnum m) :=
  PI.imp (pi_enumA hg hm (pa_cons h pa_nil hs') hs) fun σ H R ⟨g, S, ρ, ds, S', rs, re, e, fin⟩ => by
    unfold mEnum at e
    simp only [Option.bind_eq_some_iff, Option.map_eq_some_iff] at e
    obtain ⟨⟨w, S1⟩, e1, ⟨b, src, n⟩, e2, e3⟩ := e
    cases e3
    refine ⟨g, S, ρ, w, S1, rs, re, e1, fun g1 H1 x1 rs1 v rv => ?_⟩
    obtain ⟨a, rfl, ⟨_, ⟨xs, q⟩, h⟩ | ⟨_, ⟨xs, q⟩, h⟩⟩ := srcW_ok rs1 rv e2
    · exact ⟨a, xs, rfl, .inl ⟨q, fin g1 H1 x1 rs1 _ (wk_enum h)⟩⟩
    · exact ⟨a, xs, rfl, .inr ⟨q, fin g1 H1 x1 rs1 _ (wk_enumT h)⟩⟩
def mZip (m m2 : M Wv) : M (Src × Nat) := fun ρ S => (m ρ S).bind fun p => (m2 ρ p.2).bind fun q => (srcW q.2 p.1).bind fun s => (srcW q.2 q.1).bind fun t => if s.1 == t.1 then some ((srcZ s.2.1 t.2.1, s.2.2), q.2) else none
theorem ai_zip {e2 : Expr} {m2 : M Wv} {elts : List Expr} {kk : Nat} {tpos : Pos} (h : AE X e m) (h2 : AE X e2 m2) (hm : X.mg "zip" = none) (hg : Gl X "zip" := by rfl)
    (hs : starEach [e, e2] X.env = (false, eval e X.env) :: starEach [e2] X.env := by rfl) (hs2 : starEach [e2] X.env = (false, eval e2 X.env) :: starEach [] X.env := by rfl) (hpl : (backTo pos (starEach [e2] X.env)).any (·.1) = false := by rfl) :
    AI X (.Tuple elts kk tpos) (.Call (.Name "zip" p) [e, e2] [] pos) (mZip m m2) :=
  PI.imp (RZ.pi_zipA hg hm (pa_cons h (pa_cons h2 pa_nil hs2) hs) hs hpl) fun σ H R ⟨g, S, ρ, ds, S', rs, re, e, fin⟩ => by
    unfold mZip at e
    simp only [Option.bind_eq_some_iff] at e
    obtain ⟨⟨w, S1⟩, e1, ⟨w2, S2⟩, e2, ⟨b, s, n⟩, e3, ⟨b', t, n'⟩, e4, e5⟩ := e
    split at e5
    · rename_i hk
      have hk : b = b' := by simpa using hk
      subst hk
      cases e5
      refine ⟨g, S, ρ, w, S1, rs, re, e1, fun g1 H1 x1 rs1 v rv => ⟨g1, S1, ρ, w2, S2, rs1, re.mono x1, e2, fun g2 H2 x2 rs2 u ru => ?_⟩⟩
      obtain ⟨a, rfl, ha⟩ := srcW_ok rs2 (rv.mono x2) e3
      obtain ⟨c, rfl, hc⟩ := srcW_ok rs2 ru e4
      rcases ha with ⟨hb, ⟨xs, q⟩, ha⟩ | ⟨hb, ⟨xs, q⟩, ha⟩
      · rcases hc with ⟨hb', ⟨ys, q'⟩, hc⟩ | ⟨hb', _⟩
        · exact ⟨a, c, xs, ys, rfl, .inl ⟨q, q', fin g2 H2 (x1.trans x2) rs2 _ (wk_zip ha hc)⟩⟩
        · rw [hb] at hb'; cases hb'
      · rcases hc with ⟨hb', _⟩ | ⟨hb', ⟨ys, q'⟩, hc⟩
        · rw [hb] at hb'; cases hb'
        · exact ⟨a, c, xs, ys, rfl, .inr ⟨q, q', fin g2 H2 (x1.trans x2) rs2 _ (wk_zipT ha hc)⟩⟩
    · cases e5
/-- small enough for a range -/
def rgOk (i : Int) : Bool := Nat.blt i.natAbs 1000000
theorem rgOk_ok {i : Int} (h : rgOk i = true) : -1000000 < i ∧ i < 1000000 := by
  have := Nat.blt_eq.mp h
  omega
def mRg1 (ms : M (List Wv)) : M (Src × Nat) := fun ρ S => (ms ρ S).bind fun p => match p.1 with
  | [.d (.int j)] => if rgOk j then some ((srcR 0 j.toNat, j.toNat + 1), p.2) else none
  | _ => none
def mRg2 (ms : M (List Wv)) : M (Src × Nat) := fun ρ S => (ms ρ S).bind fun p => match p.1 with
  | [.d (.int i), .d (.int j)] => if rgOk i && rgOk j then some ((srcR i (j - i).toNat, (j - i).toNat + 1), p.2) else none
  | _ => none
/-- a range that falls by one -/
def mRg3 (ms : M (List Wv)) : M (Src × Nat) := fun ρ S => (ms ρ S).bind fun p => match p.1 with
  | [.d (.int i), .d (.int j), .d (.int k)] => if rgOk i && rgOk j && decide (k = -1) then some ((srcRC i (-1) (i - j).toNat, (i - j).toNat + 1), p.2) else none
  | _ => none
theorem ai_range1 {a : Expr} {ms : M (List Wv)} (ha : AA X [a] ms) (hm : X.mg "range" = none) (hg : Gl X "range" := by rfl) (hs : starEach [a] X.env = [(false, eval a X.env)] := by rfl) : AI X tg (.Call (.Name "range" p) [a] [] pos) (mRg1 ms) :=
  PI.imp (pi_range1 hg hm ha hs) fun σ H R ⟨g, S, ρ, ds, S', rs, re, e, fin⟩ => by
    unfold mRg1 at e
    simp only [Option.bind_eq_some_iff] at e
    obtain ⟨⟨w, S1⟩, e1, e2⟩ := e
    split at e2
    · rename_i j hj
      split at e2
      · rename_i hk
        cases e2
        have hj : w = [.d (.int j)] := hj
        subst hj
        refine ⟨g, S, ρ, _, S1, rs, re, e1, fun g1 H1 x1 rs1 vs rv => ?_⟩
        cases rv with
        | cons h t =>
          cases t
          cases (h : R0 X.K g1 H1 _ (.int j))
          have := rgOk_ok hk
          exact ⟨j, rfl, by omega, by omega, fin g1 H1 x1 rs1 _ wk_range⟩
      · cases e2
    · cases e2
theorem ai_range2 {a b : Expr} {ms : M (List Wv)} (ha : AA X [a, b] ms) (hm : X.mg "range" = none) (hg : Gl X "range" := by rfl) (hs : starEach [a, b] X.env = [(false, eval a X.env), (false, eval b X.env)] := by rfl) (hs2 : starEach [b] X.env = [(false, eval b X.env)] := by rfl) : AI X tg (.Call (.Name "range" p) [a, b] [] pos) (mRg2 ms) :=
  PI.imp (pi_range2 hg hm ha hs hs2) fun σ H R ⟨g, S, ρ, ds, S', rs, re, e, fin⟩ => by
    unfold mRg2 at e
    simp only [Option.bind_eq_some_iff] at e
    obtain ⟨⟨w, S1⟩, e1, e2⟩ := e
    split at e2
    · rename_i i j hj
      split at e2
      · rename_i hk
        cases e2
        have hj : w = [.d (.int i), .d (.int j)] := hj
        subst hj
        refine ⟨g, S, ρ, _, S1, rs, re, e1, fun g1 H1 x1 rs1 vs rv => ?_⟩
        cases rv with
        | cons h t =>
          cases t with
          | cons h' t =>
            cases t
            cases (h : R0 X.K g1 H1 _ (.int i))
            cases (h' : R0 X.K g1 H1 _ (.int j))
            rw [Bool.and_eq_true] at hk
            have := rgOk_ok hk.1
            have := rgOk_ok hk.2
            exact ⟨i, j, rfl, ⟨by omega, by omega, by omega, by omega⟩, fin g1 H1 x1 rs1 _ wk_range⟩
      · cases e2
    · cases e2
theorem ai_range3 {a b c : Expr} {ms : M (List Wv)} (ha : AA X [a, b, c] ms) (hm : X.mg "range" = none) (hg : Gl X "range" := by rfl)
    (hs : starEach [a, b, c] X.env = (false, eval a X.env) :: starEach [b, c] X.env := by rfl) (hpl : (backTo pos (starEach [b, c] X.env)).any (·.1) = false := by rfl) : AI X tg (.Call (.Name "range" p) [a, b, c] [] pos) (mRg3 ms) :=
  PI.imp (pi_range3 hg hm ha hs hpl) fun σ H R ⟨g, S, ρ, ds, S', rs, re, e, fin⟩ => by
    unfold mRg3 at e
    simp only [Option.bind_eq_some_iff] at e
    obtain ⟨⟨w, S1⟩, e1, e2⟩ := e
    split at e2
    · rename_i i j k hj
      split at e2
      · rename_i hk
        cases e2
        have hj : w = [.d (.int i), .d (.int j), .d (.int k)] := hj
        subst hj
        refine ⟨g, S, ρ, _, S1, rs, re, e1, fun g1 H1 x1 rs1 vs rv => ?_⟩
        cases rv with
        | cons h t =>
          cases t with
          | cons h' t =>
            cases t with
            | cons h'' t =>
              cases t
              cases (h : R0 X.K g1 H1 _ (.int i))
              cases (h' : R0 X.K g1 H1 _ (.int j))
              cases (h'' : R0 X.K g1 H1 _ (.int k))
              simp only [Bool.and_eq_true, decide_eq_true_eq] at hk
              obtain ⟨⟨k1, k2⟩, rfl⟩ := hk
              have := rgOk_ok k1
              have := rgOk_ok k2
              exact ⟨i, j, -1, (i - j).toNat, rfl, RgC.neg (by omega) (by omega) (by omega) (by omega), fin g1 H1 x1 rs1 _ wk_rangeC⟩
      · cases e2
    · cases e2
end
/-! ### targets -/
/-- only the slots is are changed -/
def Only (is : List Nat) (σ σ' : L2.St) : Prop := σ'.length = σ.length ∧ ∀ i, i ∉ is → σ'[i]? = σ[i]?
def tG (K : PySem.W.Frag) (is : List Nat) (f : Wv → Env' → Option Env') : TG := fun v σ H Q => ∃ g ρ w ρ', RE K g H σ ρ ∧ RW K g H v w ∧ f w ρ = some ρ' ∧ ∀ σ', RE K g H σ' ρ' → Only is σ σ' → Q σ' H
abbrev AG (X : Cx) (tg : Expr) (is : List Nat) (f : Wv → Env' → Option Env') : Prop := PG X tg (tG X.K is f)
def tGs (K : PySem.W.Frag) (is : List Nat) (f : List Wv → Env' → Option Env') : TGs := fun vs σ H Q => ∃ g ρ ws ρ', RE K g H σ ρ ∧ RWs K g H vs ws ∧ f ws ρ = some ρ' ∧ ∀ σ', RE K g H σ' ρ' → Only is σ σ' → Q σ' H
abbrev AGs (X : Cx) (ts : List Expr) (is : List Nat) (f : List Wv → Env' → Option Env') : Prop := PGs X ts (tGs X.K is f)
theorem R0s.ws {K : PySem.W.Frag} {g : G} {H : Hp} : ∀ {vs : List V} {ds : List PyData}, R0s K g H vs ds → RWs K g H vs (ds.map Wv.d)
  | _, _, .nil => .nil
  | _, _, .cons h t => .cons h (R0s.ws t)
section
variable {X : Cx} {pos : Pos}
theorem PG_imp {tg : Expr} {t t' : TG} (h : PG X tg t) (k : ∀ v σ H Q, t' v σ H Q → t v σ H Q) : PG X tg t' := ⟨fun pins s σ H v u Q I r w => h.run pins s σ H v u Q I r (k _ _ _ _ w)⟩
theorem PGs_imp {tg : List Expr} {t t' : TGs} (h : PGs X tg t) (k : ∀ v σ H Q, t' v σ H Q → t v σ H Q) : PGs X tg t' := ⟨fun pins s σ H v u Q I r w => h.run pins s σ H v u Q I r (k _ _ _ _ w)⟩
def gN (i : Nat) : Wv → Env' → Option Env' := fun w ρ => some (ρ.set i (some w))
theorem ag_name (i : Nat) {x : Str} (hN : X.N.Nodup) (hi : X.N[i]? = some x := by rfl) (hx : Loc X.env.scope x := by first | exact Or.inl rfl | exact Or.inr rfl) (hf : X.fn x = true ∨ X.env.scope.names.lookup x = some .local := by first | exact .inl rfl | exact .inr rfl) : AG X (.Name x pos) [i] (gN i) :=
  PG_imp (pg_name hN hi hx hf) fun v σ H Q ⟨g, ρ, d, ρ', re, r, e, k⟩ => by
    cases e
    refine k _ (re.set r i) ⟨List.length_set .., fun j hj => ?_⟩
    rw [List.getElem?_set_ne (by simpa using Ne.symm (by simpa using hj))]
def gsN : List Wv → Env' → Option Env'
  | [], ρ => some ρ
  | _ :: _, _ => none
def gsC (f : Wv → Env' → Option Env') (r : List Wv → Env' → Option Env') : List Wv → Env' → Option Env'
  | [], _ => none
  | d :: ds, ρ => (f d ρ).bind fun ρ' => r ds ρ'
theorem ags_nil : AGs X [] [] gsN := PGs_imp pgs_nil fun v σ H Q ⟨g, ρ, ds, ρ', re, r, e, k⟩ => by
  cases ds with
  | nil =>
    cases e
    cases r
    exact ⟨rfl, k σ re ⟨rfl, fun _ _ => rfl⟩⟩
  | cons d ds => cases e
theorem ags_cons {e : Expr} {es : List Expr} {is js : List Nat} {f : Wv → Env' → Option Env'} {r : List Wv → Env' → Option Env'} (h1 : AG X e is f) (h2 : AGs X es js r) (hs : (assignEach (e :: es) X.env).map (·.2) = assign e X.env :: (assignEach es X.env).map (·.2) := by rfl) : AGs X (e :: es) (is ++ js) (gsC f r) :=
  PGs_imp (pgs_cons h1 h2 hs) fun v σ H Q ⟨g, ρ, ds, ρ', re, rr, e, k⟩ => by
    cases ds with
    | nil => cases e
    | cons d ds =>
      unfold gsC at e
      simp only [Option.bind_eq_some_iff] at e
      obtain ⟨ρ1, e1, e2⟩ := e
      cases rr with
      | cons q t =>
        exact ⟨_, _, rfl, g, ρ, d, ρ1, re, q, e1, fun σ1 re1 o1 => ⟨g, ρ1, ds, ρ', re1, t, e2, fun σ2 re2 o2 => k σ2 re2 ⟨o2.1.trans o1.1, fun i hi => (o2.2 i fun z => hi (List.mem_append_right _ z)).trans (o1.2 i fun z => hi (List.mem_append_left _ z))⟩⟩⟩
def gT (f : List Wv → Env' → Option Env') : Wv → Env' → Option Env'
  | .d (.tuple ds), ρ => f (ds.map Wv.d) ρ
  | _, _ => none
theorem ag_tup {es : List Expr} {k n : Nat} {is : List Nat} {f : List Wv → Env' → Option Env'} (hc : X.calm = true) (h : AGs X es is f) (hl : ∀ ds ρ ρ', f ds ρ = some ρ' → ds.length = n) (hn : (assignEach es X.env).length = n := by rfl) (hst : (assignEach es X.env).findIdx? (·.1) = none := by rfl) : AG X (.Tuple es k pos) is (gT f) :=
  PG_imp (pg_tup hc h hn hst) fun v σ H Q ⟨g, ρ, d, ρ', re, rr, e, k⟩ => by
    unfold gT at e
    split at e
    · have rr : R0 X.K g H v _ := rr
      cases rr with
      | tup h t =>
        have q := hl _ _ _ e
        rw [List.length_map] at q
        exact ⟨_, _, rfl, .inl (.inl h), t.length.trans q, g, ρ, _, ρ', re, t.ws, e, k⟩
    · cases e
theorem gsN_len {ds : List Wv} {ρ ρ' : Env'} (h : gsN ds ρ = some ρ') : ds.length = 0 := by cases ds with | nil => rfl | cons => cases h
theorem gsC_len {f : Wv → Env' → Option Env'} {r : List Wv → Env' → Option Env'} {n : Nat} (hr : ∀ ds ρ ρ', r ds ρ = some ρ' → ds.length = n) (ds : List Wv) (ρ ρ' : Env') (h : gsC f r ds ρ = some ρ') : ds.length = n + 1 := by
  cases ds with
  | nil => cases h
  | cons d ds =>
    unfold gsC at h
    simp only [Option.bind_eq_some_iff] at h
    obtain ⟨ρ1, e1, e2⟩ := h
    exact congrArg (· + 1) (hr _ _ _ e2)
end
/-! ### wiping -/
def wipeE (ρ : Env') : List Nat → Env'
  | [] => ρ
  | v :: vs => (wipeE ρ vs).set v none
theorem RE.setN {K : PySem.W.Frag} {g : G} {H : Hp} {σ : L2.St} {ρ : Env'} (h : RE K g H σ ρ) (i : Nat) : RE K g H (σ.set i none) (ρ.set i none) := by
  induction h generalizing i with
  | nil => exact .nil
  | cons q _ ih =>
    cases i with
    | zero => exact .cons (fun w' e => by cases e) ‹_›
    | succ i => exact .cons q (ih i)
theorem RE.wipe {K : PySem.W.Frag} {g : G} {H : Hp} {σ : L2.St} {ρ : Env'} (h : RE K g H σ ρ) : ∀ vs : List Nat, RE K g H (L2.wipe σ vs) (wipeE ρ vs)
  | [] => h
  | v :: vs => (RE.wipe h vs).setN v
theorem wipe_at {σ : L2.St} {i : Nat} : ∀ {vs : List Nat}, i ∈ vs → (L2.wipe σ vs)[i]? = if i < σ.length then some none else none
  | v :: vs, h => by
    unfold L2.wipe
    by_cases e : v = i
    · subst e
      rw [List.getElem?_set_self']
      by_cases hl : v < σ.length
      · have hl' : v < (L2.wipe σ vs).length := by rw [wipe_length]; exact hl
        rw [if_pos hl, List.getElem?_eq_getElem hl']
        rfl
      · have hl' : ¬ v < (L2.wipe σ vs).length := by rw [wipe_length]; exact hl
        rw [if_neg hl, List.getElem?_eq_none (by omega)]
        rfl
    · rw [List.getElem?_set_ne e]
      exact wipe_at ((List.mem_cons.mp h).resolve_left fun z => e z.symm)
theorem only_wipe {is vs : List Nat} {σ σ' : L2.St} (o : Only is (L2.wipe σ vs) σ') (h : ∀ i ∈ is, i ∈ vs) : L2.wipe σ' vs = L2.wipe σ vs := by
  refine List.ext_getElem? fun i => ?_
  by_cases m : i ∈ vs
  · rw [wipe_at m, wipe_at m, o.1, wipe_length]
  · rw [wipe_out m, o.2 i fun z => m (h i z)]
end Ev
set_option linter.all false
set_option maxRecDepth 100000
set_option maxHeartbeats 4000000
/-! Ev8: comprehensions. -/
namespace Ev
open PySem PySem.Spec PyProof.Rows L2
theorem Cal.blk {X : Cx} (c : Cal X) (s : Shared) (H : Hp) (scope : Scope) (cenv : Env) (fp : List Addr) : Cal (X.blk s H scope cenv fp) := ⟨c.calm, c.hu⟩
def datW : Wv → Option PyData
  | .d x => some x
  | _ => none
theorem datW_r0 {K : PySem.W.Frag} {g : G} {H : Hp} {v : V} {w : Wv} {d : PyData} (r : RW K g H v w) (e : datW w = some d) : R0 K g H v d := by
  unfold datW at e
  split at e
  · cases e; exact r
  · cases e
def goLc (src : Src) (f : Wv → Env' → Option Env') (mt : M Bool) (me : M Wv) (ρ0 : Env') : Nat → Nat → Sto → Option (List PyData × Sto)
  | 0, _, _ => none
  | n + 1, i, S => (src i S).bind fun o => match o with
    | none => some ([], S)
    | some d => (f (.d d) ρ0).bind fun ρ1 => (mt ρ1 S).bind fun p => if p.1 then (me ρ1 p.2).bind fun q => (datW q.1).bind fun y => (goLc src f mt me ρ0 n (i + 1) q.2).map fun r => (y :: r.1, r.2) else goLc src f mt me ρ0 n (i + 1) p.2
def mLc (mi : M (Src × Nat)) (vs : List Nat) (f : Wv → Env' → Option Env') (mt : M Bool) (me : M Wv) : M (List PyData) := fun ρ S => (mi ρ S).bind fun p => if few p.1.2 then goLc p.1.1 f mt me (wipeE ρ vs) p.1.2 0 p.2 else none
theorem Ext.under {g1 : G} {al : List (Option Addr)} {H1 H2 H3 : Hp} {g3 : G} {D : Addr} (x : Ext g1 H1 ⟨al, g1.hid⟩ H2) (y : Ext ⟨al, D :: g1.hid⟩ H2 g3 H3) : Ext g1 H1 ⟨g3.al, g1.hid⟩ H3 :=
  x.trans ⟨rfl, y.grow, y.live, y.dead, y.new, y.keep⟩
theorem G.eta {g : G} {hd : List Addr} (y : g.hid = hd) : g = ⟨g.al, hd⟩ := by
  subst y; rfl
/-- the hidden list grows -/
theorem RS.hput {K : PySem.W.Frag} {al : List (Option Addr)} {hd : List Addr} {D : Addr} {H : Hp} {S : Sto} {xs ys : List V} (rs : RS K ⟨al, D :: hd⟩ H S) (e : H D = some (.lst xs)) : RS K ⟨al, D :: hd⟩ (upd H D (.lst ys)) S ∧
    ∀ {v : V} {d : PyData}, R0 K ⟨al, D :: hd⟩ H v d → R0 K ⟨al, D :: hd⟩ (upd H D (.lst ys)) v d := by
  have m0 : ∀ {v : V} {d : PyData}, R0 K ⟨al, D :: hd⟩ H v d → R0 K ⟨al, D :: hd⟩ (upd H D (.lst ys)) v d := by
    intro v d h
    induction h using R0.rec (motive_2 := fun vs ds _ => R0s K ⟨al, D :: hd⟩ (upd H D (.lst ys)) vs ds) with
    | non => exact .non
    | bl b => exact .bl b
    | int i => exact .int i
    | str x => exact .str x
    | lst h f _ ih => exact .lst (by rw [upd_ne (fun z => f.2 (by rw [z]; exact List.mem_cons_self))]; exact h) f ih
    | tup h _ ih => exact .tup (by rw [upd_ne (ne_of h e (by intro z; cases z))]; exact h) ih
    | nil => exact .nil
    | cons _ _ i1 i2 => exact .cons i1 i2
  have ms : ∀ {vs : List V} {ds : List PyData}, R0s K ⟨al, D :: hd⟩ H vs ds → R0s K ⟨al, D :: hd⟩ (upd H D (.lst ys)) vs ds := by
    intro vs ds h
    induction h using R0s.rec (motive_1 := fun _ _ _ => True) with
    | non => trivial
    | bl b => trivial
    | int i => trivial
    | str x => trivial
    | lst _ _ _ _ => trivial
    | tup _ _ _ => trivial
    | nil => exact .nil
    | cons h _ _ ih => exact .cons (m0 h) ih
  refine ⟨⟨rs.len, rs.nd, fun n c ec => (rs.ok n c ec).elim .inl fun ⟨a, h1, h2⟩ => .inr ⟨a, h1, ?_⟩, fun a m => ?_⟩, m0⟩
  · have na : a ≠ D := fun z => (rs.hid D List.mem_cons_self).2 (by rw [← z]; exact List.mem_of_getElem? h1)
    cases c with
    | lst ds => obtain ⟨zs, h, t⟩ := h2; exact ⟨zs, by rw [upd_ne na]; exact h, ms t⟩
    | dic b kvs =>
      rcases h2 with ⟨hb, ps, h, t⟩ | ⟨hb, ps, h, t⟩
      · exact .inl ⟨hb, ps, by rw [upd_ne na]; exact h, Paired.mapP t fun p q z => ⟨z.1, m0 z.2⟩⟩
      · exact .inr ⟨hb, ps, by rw [upd_ne na]; exact h, Paired.mapP t fun p q z => ⟨z.1, m0 z.2⟩⟩
    | dead => exact h2.elim
  · obtain ⟨h1, h2⟩ := rs.hid a m
    refine ⟨?_, h2⟩
    by_cases q : a = D
    · rw [q, upd_same]; intro z; cases z
    · rw [upd_ne q]; exact h1
theorem R0s.mapR {K : PySem.W.Frag} {g g' : G} {H H' : Hp} (k : ∀ {v : V} {d : PyData}, R0 K g H v d → R0 K g' H' v d) : ∀ {vs : List V} {ds : List PyData}, R0s K g H vs ds → R0s K g' H' vs ds
  | _, _, .nil => .nil
  | _, _, .cons h t => .cons (k h) (R0s.mapR k t)
theorem Ext.updB {g1 : G} {al : List (Option Addr)} {H1 H2 : Hp} {D : Addr} {o : HO} (x : Ext g1 H1 ⟨al, g1.hid⟩ H2) (h : H1 D = none) : Ext g1 H1 ⟨al, g1.hid⟩ (L2.upd H2 D o) where
  hid := rfl
  grow := fun b u e f => by rw [upd_ne (ne_of_none e h)]; exact x.grow b u e f
  live := x.live
  dead := x.dead
  new := x.new
  keep := fun a e => by
    by_cases q : a = D
    · rw [q, upd_same]; intro z; cases z
    · rw [upd_ne q]; exact x.keep a e
section
variable {K : PySem.W.Frag} {mi : M (Src × Nat)} {vs is : List Nat} {f : Wv → Env' → Option Env'} {mt : M Bool} {me : M Wv} {σ : L2.St} {H : Hp} {Q : VK}
theorem lc_te (his : ∀ i ∈ is, i ∈ vs) (h : tF K (mLc mi vs f mt me) σ H Q) : tLc (tI K mi) (tG K is f) (tB' K mt) (tM K me) vs σ H Q := by
  obtain ⟨g, S, ρ, ds, S', rs, re, e, fin⟩ := h
  unfold mLc at e
  simp only [Option.bind_eq_some_iff] at e
  obtain ⟨⟨⟨src, n⟩, S1⟩, e1, e2⟩ := e
  split at e2
  · rename_i hf
    refine ⟨g, S, ρ, _, S1, rs, re, e1, fun g1 H1 x1 rs1 J wk D hD => ?_⟩
    refine ⟨fun i m H2 => ∃ al S2 accV acc rest, RS K ⟨al, D :: g1.hid⟩ H2 S2 ∧ Ext g1 H1 ⟨al, g1.hid⟩ H2 ∧ H2 D = some (.lst accV) ∧ R0s K ⟨al, D :: g1.hid⟩ H2 accV acc ∧ acc.length + m ≤ n ∧ goLc src f mt me (wipeE ρ vs) m i S2 = some (rest, S') ∧ acc ++ rest = ds,
      ⟨n, g1.al, S1, [], [], ds, rs1.hide hD, .upd hD, upd_same, .nil, by simp, e2, rfl⟩, ?_⟩
    rintro i m H2 ⟨al, S2, accV, acc, rest, rs2, x2, hDl, ta, hm, eg, ef⟩
    have m1 : Mo g1 H1 ⟨al, D :: g1.hid⟩ H2 := x2.hide hD
    cases m with
    | zero => cases eg
    | succ m =>
      unfold goLc at eg
      simp only [Option.bind_eq_some_iff] at eg
      obtain ⟨o, eo, eg⟩ := eg
      cases o with
      | none =>
        cases eg
        refine .inl ⟨wk.stop i _ _ _ m1 rs2 eo, ?_⟩
        have ef : acc = ds := by rw [← ef, List.append_nil]
        subst ef
        exact fin ⟨al, g1.hid⟩ H2 D accV (x1.trans x2) rs2 (x1.noneB hD) (fun z => (rs1.hid D z).1 hD) hDl ta
      | some d =>
        simp only [Option.bind_eq_some_iff] at eg
        obtain ⟨ρ1, ef1, ⟨b, S3⟩, et, eg⟩ := eg
        refine .inr ⟨wk.go i _ _ S2 d m1 rs2 eo, _, fun H' z => ⟨m, Nat.lt_succ_self m, z⟩, fun x H3 y => ?_⟩
        obtain ⟨gr, rx⟩ := wk.yld i _ _ S2 d x H3 m1 rs2 eo y
        have rs3 := rs2.grown gr
        have x3 : Ext g1 H1 ⟨al, g1.hid⟩ H3 := x2.under (D := D) gr.ext
        have re3 : RE K ⟨al, D :: g1.hid⟩ H3 (L2.wipe σ vs) (wipeE ρ vs) := (RE.mo (x3.hide hD) (re.mono x1)).wipe vs
        have hD3 : H3 D = some (.lst accV) := gr.ext.grow D _ hDl fun z => absurd z (rs2.hid D List.mem_cons_self).2
        have ta3 := ta.mono (gr.ext (g := ⟨al, D :: g1.hid⟩))
        refine ⟨_, wipeE ρ vs, .d d, ρ1, re3, rx, ef1, fun σ2 re4 on => ⟨only_wipe on his, ?_⟩⟩
        refine ⟨_, S2, ρ1, b, S3, rs3, re4, et, fun g4 H4 x4 rs4 => ?_⟩
        have x14 := x3.under x4
        have hg4 : g4 = ⟨g4.al, D :: g1.hid⟩ := G.eta x4.hid
        have nD : some D ∉ al := (rs2.hid D List.mem_cons_self).2
        have hD4 : H4 D = some (.lst accV) := x4.grow D _ hD3 fun z => absurd z nD
        cases b with
        | false =>
          simp only [Bool.false_eq_true, if_false] at eg ⊢
          rw [hg4] at rs4
          refine ⟨g4.al, S3, accV, acc, rest, rs4, x14, hD4, ?_, by omega, eg, ef⟩
          have t := ta3.mono x4
          rw [hg4] at t
          exact t
        | true =>
          simp only [if_true, Option.bind_eq_some_iff, Option.map_eq_some_iff] at eg ⊢
          obtain ⟨⟨w, S4⟩, em, yd, ey, ⟨rest', S5⟩, er, ec⟩ := eg
          cases ec
          refine ⟨g4, S3, ρ1, w, S4, rs4, re4.mono x4, em, fun g5 H5 x5 rs5 v rv => ?_⟩
          have x45 := x4.trans x5
          have x15 := x3.under x45
          have hg5 : g5 = ⟨g5.al, D :: g1.hid⟩ := G.eta (x5.hid.trans x4.hid)
          have hD5 : H5 D = some (.lst accV) := x45.grow D _ hD3 fun z => absurd z nD
          have t := ta3.mono x45
          have ry := datW_r0 rv ey
          rw [hg5] at rs5 t ry
          obtain ⟨r6, k6⟩ := rs5.hput (ys := accV ++ [v]) hD5
          refine ⟨accV, hD5, ?_, g5.al, S4, accV ++ [v], acc ++ [yd], rest', r6, x15.updB hD, upd_same, ?_, ?_, er, by rw [← ef, List.append_assoc]; rfl⟩
          · have hn : n ≤ sizeLine := few_line hf
            rw [t.length]
            omega
          · exact R0s.mapR k6 (t.append (.cons ry .nil))
          · rw [List.length_append]; simp; omega
  · cases e2
end
/-! ### as code -/
section
variable {X : Cx} {elt tg iter : Expr} {ifs : List Expr} {scope : Scope} {own : List (Str × Nat)} {pos spos py : Pos} {mi : M (Src × Nat)} {is : List Nat} {f : Wv → Env' → Option Env'} {mt : M Bool} {me : M Wv}
abbrev ATs (X : Cx) (ifs : List Expr) (m : M Bool) : Prop := PTs X ifs (tB' X.K m)
def mYes : M Bool := fun _ S => some (true, S)
theorem ats_nil : ATs X [] mYes := ⟨fun pins s σ H Q I ⟨g, S, ρ, w, S', rs, re, e, fin⟩ => pts_nil.run pins s σ H Q I (by cases e; exact fin g H .refl rs)⟩
theorem ats_one {c : Expr} (h : AT X c mt) : ATs X [c] mt := pts_one h
abbrev Blk (X : Cx) (scope : Scope) (P : Cx → Prop) : Prop := ∀ (s : Shared) (H : Hp) (C : Addr) (cl : List (Str × Addr)) (fp : List Addr), P (X.blk s H scope (compEnvC scope cl C X.env) fp)
theorem af_lc (c : Cal X) (hN : X.N.Nodup) (hi : AI X tg iter mi) (ok : BlkOk X.N X.env.scope scope own) (his : ∀ i ∈ is, i ∈ own.map (·.2)) (hg : Blk X scope fun Y => AG Y tg is f) (ht : Blk X scope fun Y => ATs Y ifs mt) (he : Blk X scope fun Y => AE Y elt me) (hs : ∀ x, foldedSetIterable iter X.env x = pure x := by intro _; rfl) :
    AF X (.ListComp elt [⟨tg, iter, ifs, 0⟩] scope pos) (mLc mi (own.map (·.2)) f mt me) :=
  (pe_lc c.calm hN hi ok hg ht he hs).imp fun σ H Q q => lc_te his q
end
end Ev
set_option linter.all false
set_option maxRecDepth 100000
set_option maxHeartbeats 4000000
/-! Ev9: statements. -/
namespace Ev
open PySem PySem.Spec PyProof.Rows L2
/-! ### a cell is written, a cell becomes data -/
section
variable {K : PySem.W.Frag} {g g' : G} {H H' : Hp} {S : Sto}
theorem Ext.write {a : Addr} {o o' : HO} (h : some a ∈ g.al) (e : H a = some o) (nf : ¬ Fixed o) : Ext g H g (L2.upd H a o') where
  hid := rfl
  grow := fun b u eb f => by
    by_cases q : b = a
    · subst q
      rw [e] at eb
      cases eb
      exact absurd (f h) nf
    · rw [upd_ne q]; exact eb
  live := fun _ _ h => .inl h
  dead := fun _ h => h
  new := fun _ h => .inl h
  keep := fun b eb => by
    by_cases q : b = a
    · rw [q, upd_same]; intro z; cases z
    · rw [upd_ne q]; exact eb
theorem RS.write (rs : RS K g H S) {n : Nat} {a : Addr} {o o' : HO} {c' : Cell} (hn : g.al[n]? = some (some a)) (e : H a = some o) (nf : ¬ Fixed o) (hc : CellOk K g (upd H a o') a c') : RS K g (upd H a o') (S.set n c') := by
  have x : Ext g H g (upd H a o') := .write (List.mem_of_getElem? hn) e nf
  refine ⟨by rw [List.length_set]; exact rs.len, rs.nd, fun m c em => ?_, fun b hb => ?_⟩
  · by_cases q : n = m
    · subst q
      have hl : n < S.length := by rw [← rs.len]; exact (List.getElem?_eq_some_iff.mp hn).1
      rw [List.getElem?_set_self hl] at em
      cases em
      exact .inr ⟨a, hn, hc⟩
    · rw [List.getElem?_set_ne q] at em
      rcases rs.ok m c em with z | ⟨b, hb, k⟩
      · exact .inl z
      · refine .inr ⟨b, hb, k.mono x fun u eu => ?_⟩
        rw [upd_ne fun z => q (rs.nd n m a hn (by rw [← z]; exact hb))]
        exact eu
  · obtain ⟨h1, h2⟩ := rs.hid b hb
    exact ⟨x.keep b h1, h2⟩
theorem frz_ok (rs : RS K g H S) {n : Nat} {a : Addr} {ds : List PyData} (hn : g.al[n]? = some (some a)) (e : S[n]? = some (.lst ds)) :
    Ext g H ⟨g.al.set n none, g.hid⟩ H ∧ RS K ⟨g.al.set n none, g.hid⟩ H (S.set n .dead) ∧ R0 K ⟨g.al.set n none, g.hid⟩ H (.ref a) (.list ds) := by
  have hl : n < g.al.length := (List.getElem?_eq_some_iff.mp hn).1
  have ge : ∀ m : Nat, (g.al.set n none)[m]? = if n = m then some none else g.al[m]? := fun m => by
    by_cases q : n = m
    · subst q; rw [if_pos rfl, List.getElem?_set_self hl]
    · rw [if_neg q, List.getElem?_set_ne q]
  have nw : ∀ b : Addr, some b ∈ g.al.set n none → some b ∈ g.al := fun b m => by
    obtain ⟨i, hi⟩ := List.mem_iff_getElem?.mp m
    rw [ge] at hi
    split at hi
    · cases Option.some.inj hi
    · exact List.mem_of_getElem? hi
  have x : Ext g H ⟨g.al.set n none, g.hid⟩ H := {
    hid := rfl
    grow := fun b u e _ => e
    live := fun m b hm => by
      show (g.al.set n none)[m]? = _ ∨ (g.al.set n none)[m]? = _
      rw [ge]
      split
      · exact .inr rfl
      · exact .inl hm
    dead := fun m hm => by
      show (g.al.set n none)[m]? = _
      rw [ge]
      split
      · rfl
      · exact hm
    new := fun b m => .inl (nw b m)
    keep := fun b h => h }
  obtain ⟨_, xs, h, t⟩ := rs.at_lst (.inl hn) e
  refine ⟨x, ⟨by rw [List.length_set, List.length_set]; exact rs.len, fun i j b h1 h2 => ?_, fun m c em => ?_, fun b hb => ?_⟩, .lst h ⟨fun m => ?_, fun m => (rs.hid a m).2 (List.mem_of_getElem? hn)⟩ (t.mono x)⟩
  · have h1 : (g.al.set n none)[i]? = _ := h1
    have h2 : (g.al.set n none)[j]? = _ := h2
    rw [ge] at h1 h2
    split at h1
    · cases Option.some.inj h1
    · split at h2
      · cases Option.some.inj h2
      · exact rs.nd i j b h1 h2
  · show ((g.al.set n none)[m]? = some none ∧ c = .dead) ∨ ∃ b, (g.al.set n none)[m]? = some (some b) ∧ _
    rw [ge]
    by_cases q : n = m
    · subst q
      rw [List.getElem?_set_self (by rw [← rs.len]; exact hl)] at em
      cases em
      rw [if_pos rfl]
      exact .inl ⟨rfl, rfl⟩
    · rw [List.getElem?_set_ne q] at em
      rw [if_neg q]
      rcases rs.ok m c em with z | ⟨b, hb, k⟩
      · exact .inl z
      · exact .inr ⟨b, hb, k.mono x fun u eu => eu⟩
  · obtain ⟨h1, h2⟩ := rs.hid b hb
    exact ⟨h1, fun z => h2 (nw b z)⟩
  · obtain ⟨i, hi⟩ := List.mem_iff_getElem?.mp m
    have hi : (g.al.set n none)[i]? = _ := hi
    rw [ge] at hi
    split at hi
    · cases Option.some.inj hi
    · exact ‹n ≠ i› (rs.nd n i a hn hi)
end
section
variable {X : Cx}
/-- the list itself, as data from now on -/
def frzW (S : Sto) : Wv → Option (Wv × Sto)
  | .r n => match S[n]? with
    | some (.lst ds) => some (.d (.list ds), S.set n .dead)
    | _ => none
  | w => some (w, S)
theorem frzW_ok {K : PySem.W.Frag} {g : G} {H : Hp} {S : Sto} {v : V} {w : Wv} {q : Wv × Sto} (rs : RS K g H S) (rv : RW K g H v w) (e : frzW S w = some q) : ∃ g', Ext g H g' H ∧ RS K g' H q.2 ∧ RW K g' H v q.1 := by
  unfold frzW at e
  split at e
  · split at e
    · rename_i ds hd
      cases e
      obtain ⟨a, rfl, ha⟩ := rv
      obtain ⟨hn, _⟩ := rs.at_lst ha hd
      obtain ⟨h1, h2, h3⟩ := frz_ok rs hn hd
      exact ⟨_, h1, h2, h3⟩
    · cases e
  · cases e
    exact ⟨g, .refl, rs, rv⟩
def mFz (m : M Wv) : M Wv := fun ρ S => (m ρ S).bind fun p => frzW p.2 p.1
theorem ae_frz {e : Expr} {m : M Wv} (h : AE X e m) : AE X e (mFz m) := h.imp fun σ H Q ⟨g, S, ρ, w, S', rs, re, e, fin⟩ => by
  unfold mFz at e
  simp only [Option.bind_eq_some_iff] at e
  obtain ⟨⟨x, S1⟩, e1, e2⟩ := e
  refine ⟨g, S, ρ, x, S1, rs, re, e1, fun g1 H1 x1 rs1 v rv => ?_⟩
  obtain ⟨g2, x2, rs2, rv2⟩ := frzW_ok rs1 rv e2
  exact fin g2 H1 (x1.trans x2) rs2 v rv2
end
/-! ### statements -/
section
variable {X : Cx} {e : Expr} {m : M Wv} {pos : Pos}
def mNext : MS := fun ρ S => some (.nx, ρ, S)
def mSeq (a b : MS) : MS := fun ρ S => (a ρ S).bind fun p => match p.1 with
  | .nx => b p.2.1 p.2.2
  | _ => some p
def mNever : MS := fun _ _ => none
def mSet (i : Nat) (m : M Wv) : MS := fun ρ S => (m ρ S).map fun p => (.nx, ρ.set i (some p.1), p.2)
def mAsg (f : Wv → Env' → Option Env') (m : M Wv) : MS := fun ρ S => (m ρ S).bind fun p => (f p.1 ρ).map fun ρ' => (.nx, ρ', p.2)
def mUnp (f : List Wv → Env' → Option Env') (m : M (List Wv)) : MS := fun ρ S => (m ρ S).bind fun p => if few p.1.length then (f p.1 ρ).map fun ρ' => (.nx, ρ', p.2) else none
def mPar (i j : Nat) (m : M (List Wv)) : MS := fun ρ S => (m ρ S).bind fun p => match p.1 with
  | [v, w] => some (.nx, (ρ.set i (some v)).set j (some w), p.2)
  | _ => none
def mPar3 (i j l : Nat) (m : M (List Wv)) : MS := fun ρ S => (m ρ S).bind fun p => match p.1 with
  | [u, v, w] => some (.nx, ((ρ.set i (some u)).set j (some v)).set l (some w), p.2)
  | _ => none
def mDo (m : M Wv) : MS := fun ρ S => (m ρ S).map fun p => (.nx, ρ, p.2)
def mRet (m : M Wv) : MS := fun ρ S => (m ρ S).map fun p => (.rt p.1, ρ, p.2)
def mRetN : MS := fun ρ S => some (.rt (.d .none), ρ, S)
def mIfS (c : M Bool) (a b : MS) : MS := fun ρ S => (c ρ S).bind fun p => if p.1 then a ρ p.2 else b ρ p.2
def mBrk : MS := fun ρ S => some (.bk, ρ, S)
def mCnt : MS := fun ρ S => some (.ct, ρ, S)
theorem ass_nil : ASs X [] mNext := pss_nil.imp fun D σ H ⟨g, S, ρ, f, ρ', S', rs, re, e, fin⟩ => by
  cases e
  exact fin g H .refl rs σ re
theorem ass_cons {st : Stmt} {rest : List Stmt} {a b : MS} (h1 : AS X st a) (h2 : ASs X rest b) : ASs X (st :: rest) (mSeq a b) :=
  PSs.imp (pss_cons h1 h2) fun D σ H ⟨g, S, ρ, f, ρ', S', rs, re, e, fin⟩ => by
    unfold mSeq at e
    simp only [Option.bind_eq_some_iff] at e
    obtain ⟨⟨f1, ρ1, S1⟩, e1, e2⟩ := e
    refine ⟨g, S, ρ, f1, ρ1, S1, rs, re, e1, fun g1 H1 x1 rs1 => ?_⟩
    cases f1 with
    | nx => exact fun σ' re' => ⟨g1, S1, ρ1, f, ρ', S', rs1, re', e2, fin.mono x1⟩
    | bk => cases e2; exact fin g1 H1 x1 rs1
    | ct => cases e2; exact fin g1 H1 x1 rs1
    | rt w => cases e2; exact fin g1 H1 x1 rs1
theorem ass_one {st : Stmt} {a : MS} (h1 : AS X st a) : ASs X [st] a := pss_one h1
theorem as_never {st : Stmt} : AS X st mNever := ps_never.imp fun D σ H ⟨g, S, ρ, f, ρ', S', rs, re, e, fin⟩ => by cases e
theorem as_pass : AS X (.Pass pos) mNext := ps_pass.imp fun D σ H ⟨g, S, ρ, f, ρ', S', rs, re, e, fin⟩ => by
  cases e
  exact fin g H .refl rs σ re
theorem as_doc {x j pos'} : AS X (.Expr (.Constant (.str x) j pos) pos') mNext := ps_doc.imp fun D σ H ⟨g, S, ρ, f, ρ', S', rs, re, e, fin⟩ => by
  cases e
  exact fin g H .refl rs σ re
theorem as_break : AS X (.Break pos) mBrk := ps_break.imp fun D σ H ⟨g, S, ρ, f, ρ', S', rs, re, e, fin⟩ => by
  cases e
  exact fin g H .refl rs σ re
theorem as_continue : AS X (.Continue pos) mCnt := ps_continue.imp fun D σ H ⟨g, S, ρ, f, ρ', S', rs, re, e, fin⟩ => by
  cases e
  exact fin g H .refl rs σ re
theorem set_te {K : PySem.W.Frag} {i : Nat} {m : M Wv} {D : Ends} {σ : L2.St} {H : Hp} (h : tS K (mSet i m) D σ H) : tM K m σ H fun v H' => D.nx (σ.set i (some v)) H' := by
  obtain ⟨g, S, ρ, f, ρ', S', rs, re, e, fin⟩ := h
  unfold mSet at e
  simp only [Option.map_eq_some_iff] at e
  obtain ⟨⟨x, S1⟩, e1, e2⟩ := e
  cases e2
  exact ⟨g, S, ρ, x, S1, rs, re, e1, fun g1 H1 x1 rs1 v rv => fin g1 H1 x1 rs1 _ ((re.mono x1).set rv i)⟩
theorem as_set (i : Nat) {x : Str} {pos' : Pos} (hN : X.N.Nodup) (he : AE X e m) (hi : X.N[i]? = some x := by rfl) (hx : Loc X.env.scope x := by first | exact Or.inl rfl | exact Or.inr rfl) (hs : swapsWith e (some (.Name x pos')) pos.line X.env = pure false := by rfl) (hf : X.fn x = true ∨ X.env.scope.names.lookup x = some .local := by first | exact .inl rfl | exact .inr rfl) :
    AS X (.Assign [.Name x pos'] e pos) (mSet i m) := (ps_set hN hi hx he hs hf).imp fun D σ H q => set_te q
theorem as_asg {tg : Expr} {is : List Nat} {f : Wv → Env' → Option Env'} (he : AE X e m) (hg : AG X tg is f) (hs : swapsWithSole [tg] e pos.line X.env = pure false := by rfl) (hw : swappedStores [tg] e X.env = pure none := by rfl) (h1 : (assignEach [tg] X.env).map (·.2) = [assign tg X.env] := by rfl) :
    AS X (.Assign [tg] e pos) (mAsg f m) := PS.imp (ps_asg he hg hs hw h1) fun D σ H ⟨g, S, ρ, fl, ρ', S', rs, re, e, fin⟩ => by
  unfold mAsg at e
  simp only [Option.bind_eq_some_iff, Option.map_eq_some_iff] at e
  obtain ⟨⟨x, S1⟩, e1, ρ1, e2, e3⟩ := e
  cases e3
  exact ⟨g, S, ρ, x, S1, rs, re, e1, fun g1 H1 x1 rs1 v rv => ⟨g1, ρ, x, ρ', re.mono x1, rv, e2, fun σ' re' _ => fin g1 H1 x1 rs1 σ' re'⟩⟩
/-- a pair is built and taken apart -/
theorem as_unp {es ts : List Expr} {k k2 n : Nat} {p1 p2 : Pos} {is : List Nat} {f : List Wv → Env' → Option Env'} {ms : M (List Wv)} (hc : X.calm = true) (ha : AA X es ms) (hg : AGs X ts is f) (hl : ∀ ds ρ ρ', f ds ρ = some ρ' → ds.length = n) (hn : (assignEach ts X.env).length = n := by rfl) (hst : (assignEach ts X.env).findIdx? (·.1) = none := by rfl)
    (hs : swapsWithSole [.Tuple ts k p1] (.Tuple es k2 p2) pos.line X.env = pure false := by rfl) (hw : swappedStores [.Tuple ts k p1] (.Tuple es k2 p2) X.env = pure none := by rfl) (h1 : (assignEach [.Tuple ts k p1] X.env).map (·.2) = [assign (.Tuple ts k p1) X.env] := by rfl) :
    AS X (.Assign [.Tuple ts k p1] (.Tuple es k2 p2) pos) (mUnp f ms) := PS.imp (ps_asg (pe_tup ha) (pg_tup hc hg hn hst) hs hw h1) fun D σ H ⟨g, S, ρ, fl, ρ', S', rs, re, e, fin⟩ => by
  unfold mUnp at e
  simp only [Option.bind_eq_some_iff] at e
  obtain ⟨⟨ws, S1⟩, e1, e2⟩ := e
  split at e2
  · rename_i hf
    simp only [Option.map_eq_some_iff] at e2
    obtain ⟨ρ1, e2, e3⟩ := e2
    cases e3
    refine ⟨g, S, ρ, ws, _, rs, re, e1, fun g1 H1 x1 rs1 vs rv => ?_⟩
    have ll : vs.length = ws.length := rv.length
    refine ⟨by rw [ll]; exact few_line hf, fun p hp => ?_⟩
    have x2 : Ext g1 H1 g1 (upd H1 p (.tup vs)) := .upd hp
    have rs2 := rs1.grown (.inr ⟨p, .tup vs, hp, rfl⟩)
    exact ⟨p, vs, rfl, .inl (.inl upd_same), ll.trans (hl _ _ _ e2), g1, ρ, ws, ρ', (re.mono x1).mono x2, rv.mono x2, e2, fun σ' re' _ => fin g1 _ (x1.trans x2) rs2 σ' re'⟩
  · cases e2
theorem as_par {i j : Nat} {x y : Str} {a b : Expr} {ms : M (List Wv)} {px py pt : Pos} {kt k2 pt2} (hc : X.calm = true) (hN : X.N.Nodup) (ha : AA X [a, b] ms) (hi : X.N[i]? = some x := by rfl) (hj : X.N[j]? = some y := by rfl) (hij : i ≠ j := by decide)
    (hx : X.env.scope.names.lookup x = some .local := by rfl) (hy : X.env.scope.names.lookup y = some .local := by rfl)
    (hw : swappedStores [.Tuple [.Name x px, .Name y py] kt pt] (.Tuple [a, b] k2 pt2) X.env = pure (some [x, y]) := by rfl)
    (hs : swapsWithSole [.Tuple [.Name x px, .Name y py] kt pt] (.Tuple [a, b] k2 pt2) pos.line X.env = pure false := by rfl) :
    AS X (.Assign [.Tuple [.Name x px, .Name y py] kt pt] (.Tuple [a, b] k2 pt2) pos) (mPar i j ms) := PS.imp (ps_par hc hN hi hj hij hx hy ha hw hs) fun D σ H ⟨g, S, ρ, fl, ρ', S', rs, re, e, fin⟩ => by
  unfold mPar at e
  simp only [Option.bind_eq_some_iff] at e
  obtain ⟨⟨ws, S1⟩, e1, e2⟩ := e
  split at e2
  · rename_i w1 w2 hw
    cases e2
    have hw : ws = [w1, w2] := hw
    subst hw
    refine ⟨g, S, ρ, _, S1, rs, re, e1, fun g1 H1 x1 rs1 vs rv => ?_⟩
    cases rv with
    | cons r1 rv =>
      cases rv with
      | cons r2 rv =>
        cases rv
        exact ⟨_, _, rfl, fin g1 H1 x1 rs1 _ (((re.mono x1).set r1 i).set r2 j)⟩
  · cases e2
theorem as_par3 {i j l : Nat} {x y z : Str} {a b c : Expr} {ms : M (List Wv)} {px py pz pt : Pos} {kt k2 pt2} (hc : X.calm = true) (hN : X.N.Nodup) (ha : AA X [a, b, c] ms) (hi : X.N[i]? = some x := by rfl) (hj : X.N[j]? = some y := by rfl) (hl : X.N[l]? = some z := by rfl) (hij : i ≠ j := by decide) (hil : i ≠ l := by decide) (hjl : j ≠ l := by decide)
    (hx : X.env.scope.names.lookup x = some .local := by rfl) (hy : X.env.scope.names.lookup y = some .local := by rfl) (hz : X.env.scope.names.lookup z = some .local := by rfl)
    (hw : swappedStores [.Tuple [.Name x px, .Name y py, .Name z pz] kt pt] (.Tuple [a, b, c] k2 pt2) X.env = pure (some [x, y, z]) := by rfl)
    (hs : swapsWithSole [.Tuple [.Name x px, .Name y py, .Name z pz] kt pt] (.Tuple [a, b, c] k2 pt2) pos.line X.env = pure false := by rfl) :
    AS X (.Assign [.Tuple [.Name x px, .Name y py, .Name z pz] kt pt] (.Tuple [a, b, c] k2 pt2) pos) (mPar3 i j l ms) := PS.imp (ps_par3 hc hN hi hj hl hij hil hjl hx hy hz ha hw hs) fun D σ H ⟨g, S, ρ, fl, ρ', S', rs, re, e, fin⟩ => by
  unfold mPar3 at e
  simp only [Option.bind_eq_some_iff] at e
  obtain ⟨⟨ws, S1⟩, e1, e2⟩ := e
  split at e2
  · rename_i w1 w2 w3 hw
    cases e2
    have hw : ws = [w1, w2, w3] := hw
    subst hw
    refine ⟨g, S, ρ, _, S1, rs, re, e1, fun g1 H1 x1 rs1 vs rv => ?_⟩
    cases rv with
    | cons r1 rv =>
      cases rv with
      | cons r2 rv =>
        cases rv with
        | cons r3 rv =>
          cases rv
          exact ⟨_, _, _, rfl, fin g1 H1 x1 rs1 _ ((((re.mono x1).set r1 i).set r2 j).set r3 l)⟩
  · cases e2
theorem as_do (he : AE X e m) (hs : swapsWith e none pos.line X.env = pure false := by rfl) : AS X (.Expr e pos) (mDo m) := (ps_expr he hs).imp fun D σ H ⟨g, S, ρ, fl, ρ', S', rs, re, e, fin⟩ => by
  unfold mDo at e
  simp only [Option.map_eq_some_iff] at e
  obtain ⟨⟨x, S1⟩, e1, e2⟩ := e
  cases e2
  exact ⟨g, S, ρ, x, S1, rs, re, e1, fun g1 H1 x1 rs1 v rv => fin g1 H1 x1 rs1 σ (re.mono x1)⟩
theorem as_ret (he : AE X e m) : AS X (.Return (some e) pos) (mRet m) := (ps_ret he).imp fun D σ H ⟨g, S, ρ, fl, ρ', S', rs, re, e, fin⟩ => by
  unfold mRet at e
  simp only [Option.map_eq_some_iff] at e
  obtain ⟨⟨x, S1⟩, e1, e2⟩ := e
  cases e2
  exact ⟨g, S, ρ, x, S1, rs, re, e1, fun g1 H1 x1 rs1 v rv => fin g1 H1 x1 rs1 v rv⟩
theorem as_retN : AS X (.Return none pos) mRetN := ps_retN.imp fun D σ H ⟨g, S, ρ, fl, ρ', S', rs, re, e, fin⟩ => by
  cases e
  exact fin g H .refl rs .non .non
theorem as_if {c : Expr} {p q : List Stmt} {mc : M Bool} {a b : MS} (hc : AT X c mc) (ha : ASs X p a) (hb : ASs X q b) : AS X (.If c p q pos) (mIfS mc a b) := (ps_if hc ha hb).imp fun D σ H ⟨g, S, ρ, fl, ρ', S', rs, re, e, fin⟩ => by
  unfold mIfS at e
  simp only [Option.bind_eq_some_iff] at e
  obtain ⟨⟨x, S1⟩, e1, e2⟩ := e
  refine ⟨g, S, ρ, x, S1, rs, re, e1, fun g1 H1 x1 rs1 => ?_⟩
  cases x with
  | true => exact ⟨g1, S1, ρ, fl, ρ', S', rs1, re.mono x1, e2, fin.mono x1⟩
  | false => exact ⟨g1, S1, ρ, fl, ρ', S', rs1, re.mono x1, e2, fin.mono x1⟩
/-- x = [.. for ..] on one line -/
theorem as_setLc {i : Nat} {y : Str} {py : Pos} {elt tg iter : Expr} {ifs : List Expr} {scope : Scope} {own : List (Str × Nat)} {lpos : Pos} {mi : M (Src × Nat)} {is : List Nat} {f : Wv → Env' → Option Env'} {mt : M Bool} {me : M Wv}
    (c : Cal X) (hN : X.N.Nodup) (hi : AI X tg iter mi) (ok : BlkOk X.N X.env.scope scope own) (his : ∀ i ∈ is, i ∈ own.map (·.2)) (hg : Blk X scope fun Y => AG Y tg is f) (ht : Blk X scope fun Y => ATs Y ifs mt) (he : Blk X scope fun Y => AE Y elt me)
    (hk : (∀ {K : PySem.W.Frag} {σ : L2.St} {H : Hp} {Q : VK}, tM K m σ H Q → tF K (mLc mi (own.map (·.2)) f mt me) σ H Q))
    (hy : X.N[i]? = some y := by rfl) (hyl : X.env.scope.names.lookup y = some .local := by rfl) (hkd : X.env.scope.kind = .function := by rfl) (hl : (py.line == lpos.line) = true := by rfl) (hsc : (scope.names.any fun (n, k) => n == y && (k == .local || k == .cell)) = false := by rfl)
    (hs : ∀ x, foldedSetIterable iter X.env x = pure x := by intro _; rfl) :
    AS X (.Assign [.Name y py] (.ListComp elt [⟨tg, iter, ifs, 0⟩] scope lpos) pos) (mSet i m) :=
  (ps_setLc c.calm hN hy hyl (sw_true hkd hyl hl hsc) hi ok hg ht he hs).imp fun D σ H q => lc_te his (hk (set_te q))
/-! ### loops -/
def forGo (src : Src) (f : Wv → Env' → Option Env') (body : MS) : Nat → Nat → MS
  | 0, _, _, _ => none
  | n + 1, i, ρ, S => (src i S).bind fun o => match o with
    | none => some (.nx, ρ, S)
    | some d => (f (.d d) ρ).bind fun ρ1 => (body ρ1 S).bind fun p => match p.1 with
      | .nx => forGo src f body n (i + 1) p.2.1 p.2.2
      | .ct => forGo src f body n (i + 1) p.2.1 p.2.2
      | .bk => some (.nx, p.2)
      | .rt w => some (.rt w, p.2)
def mFor (mi : M (Src × Nat)) (f : Wv → Env' → Option Env') (body : MS) : MS := fun ρ S => (mi ρ S).bind fun p => forGo p.1.1 f body p.1.2 0 ρ p.2
theorem as_for {tg iter : Expr} {body : List Stmt} {mi : M (Src × Nat)} {is : List Nat} {f : Wv → Env' → Option Env'} {mb : MS} (hp : PassesOwn (model X.prog X.w) X.A X.env X.xe) (hc : X.calm = true) (hi : AI X tg iter mi) (hg : AG X tg is f) (hb : ASs X body mb)
    (hs : ∀ x, foldedSetIterable iter X.env x = pure x := by intro _; rfl) : AS X (.For tg iter body [] pos) (mFor mi f mb) := PS.imp (ps_for hp hc hi hg hb hs) fun D σ H ⟨g, S, ρ, fl, ρ', S', rs, re, e, fin⟩ => by
  unfold mFor at e
  simp only [Option.bind_eq_some_iff] at e
  obtain ⟨⟨⟨src, n⟩, S1⟩, e1, e2⟩ := e
  refine ⟨g, S, ρ, _, S1, rs, re, e1, fun g1 H1 x1 rs1 J wk => ?_⟩
  refine ⟨fun i m σ2 H2 => ∃ g2 S2 ρ2, Ext g1 H1 g2 H2 ∧ RS X.K g2 H2 S2 ∧ RE X.K g2 H2 σ2 ρ2 ∧ forGo src f mb m i ρ2 S2 = some (fl, ρ', S'), ⟨n, g1, S1, ρ, .refl, rs1, re.mono x1, e2⟩, ?_⟩
  rintro i m σ2 H2 ⟨g2, S2, ρ2, x2, rs2, re2, eg⟩
  cases m with
  | zero => cases eg
  | succ m =>
    unfold forGo at eg
    simp only [Option.bind_eq_some_iff] at eg
    obtain ⟨o, eo, eg⟩ := eg
    cases o with
    | none =>
      cases eg
      exact .inl ⟨wk.stop i _ _ _ x2.mo rs2 eo, fin g2 H2 (x1.trans x2) rs2 σ2 re2⟩
    | some d =>
      simp only [Option.bind_eq_some_iff] at eg
      obtain ⟨ρ3, ef, ⟨f4, ρ4, S4⟩, eb, eg⟩ := eg
      refine .inr ⟨wk.go i _ _ S2 d x2.mo rs2 eo, _, fun σ' H' z => ⟨m, Nat.lt_succ_self m, z⟩, fun x H3 y => ?_⟩
      obtain ⟨gr, rx⟩ := wk.yld i _ _ S2 d x H3 x2.mo rs2 eo y
      have x3 : Ext g1 H1 g2 H3 := x2.trans gr.ext
      refine ⟨g2, ρ2, .d d, ρ3, re2.mono gr.ext, rx, ef, fun σ4 re4 _ => ⟨g2, S2, ρ3, f4, ρ4, S4, rs2.grown gr, re4, eb, fun g5 H5 x5 rs5 => ?_⟩⟩
      cases f4 with
      | nx => exact fun σ' re' => ⟨g5, S4, ρ4, x3.trans x5, rs5, re', eg⟩
      | ct => exact fun σ' re' => ⟨g5, S4, ρ4, x3.trans x5, rs5, re', eg⟩
      | bk => cases eg; exact fin g5 H5 (x1.trans (x3.trans x5)) rs5
      | rt w => cases eg; exact fin g5 H5 (x1.trans (x3.trans x5)) rs5
def whileGo (c : M Bool) (body : MS) : Nat → MS
  | 0, _, _ => none
  | n + 1, ρ, S => (c ρ S).bind fun q => if q.1 then (body ρ q.2).bind fun p => match p.1 with
      | .nx => whileGo c body n p.2.1 p.2.2
      | .ct => whileGo c body n p.2.1 p.2.2
      | .bk => some (.nx, p.2)
      | .rt w => some (.rt w, p.2)
    else some (.nx, ρ, q.2)
theorem as_while (n : Nat) {c : Expr} {body : List Stmt} {mc : M Bool} {mb : MS} (hp : PassesOwn (model X.prog X.w) X.A X.env X.xe) (hc : AT X c mc) (hb : ASs X body mb) : AS X (.While c body [] pos) (whileGo mc mb n) := PS.imp (ps_while hp hc hb) fun D σ H ⟨g, S, ρ, fl, ρ', S', rs, re, e, fin⟩ => by
  refine ⟨fun m σ2 H2 => ∃ g2 S2 ρ2, Ext g H g2 H2 ∧ RS X.K g2 H2 S2 ∧ RE X.K g2 H2 σ2 ρ2 ∧ whileGo mc mb m ρ2 S2 = some (fl, ρ', S'), ⟨n, g, S, ρ, .refl, rs, re, e⟩, ?_⟩
  rintro m σ2 H2 ⟨g2, S2, ρ2, x2, rs2, re2, eg⟩
  cases m with
  | zero => cases eg
  | succ m =>
    unfold whileGo at eg
    simp only [Option.bind_eq_some_iff] at eg
    obtain ⟨⟨b, S3⟩, ec, eg⟩ := eg
    refine ⟨g2, S2, ρ2, b, S3, rs2, re2, ec, fun g3 H3 x3 rs3 => ?_⟩
    cases b with
    | false =>
      cases eg
      exact fin g3 H3 (x2.trans x3) rs3 σ2 (re2.mono x3)
    | true =>
      simp only [if_true, Option.bind_eq_some_iff] at eg ⊢
      obtain ⟨⟨f4, ρ4, S4⟩, eb, eg⟩ := eg
      refine ⟨_, fun σ' H' z => ⟨m, Nat.lt_succ_self m, z⟩, g3, S3, ρ2, f4, ρ4, S4, rs3, re2.mono x3, eb, fun g5 H5 x5 rs5 => ?_⟩
      have x35 := (x2.trans x3).trans x5
      cases f4 with
      | nx => exact fun σ' re' => ⟨g5, S4, ρ4, x35, rs5, re', eg⟩
      | ct => exact fun σ' re' => ⟨g5, S4, ρ4, x35, rs5, re', eg⟩
      | bk => cases eg; exact fin g5 H5 x35 rs5
      | rt w => cases eg; exact fin g5 H5 x35 rs5
end
end Ev
set_option linter.all false
set_option maxRecDepth 100000
set_option maxHeartbeats 4000000
/-! Ev10: defs and their calls. -/
namespace Ev
open PySem PySem.Spec PyProof.Rows L2
section
variable {K : PySem.W.Frag} {g g' : G} {H H' : Hp} {S S' : Sto}
theorem R0.sub {al' : List (Option Addr)} (k : ∀ b : Addr, some b ∈ al' → some b ∈ g.al) {v : V} {d : PyData} (h : R0 K g H v d) : R0 K ⟨al', g.hid⟩ H v d := by
  induction h using R0.rec (motive_2 := fun vs ds _ => R0s K ⟨al', g.hid⟩ H vs ds) with
  | non => exact .non
  | bl b => exact .bl b
  | int i => exact .int i
  | str x => exact .str x
  | lst h f _ ih => exact .lst h ⟨fun m => f.1 (k _ m), f.2⟩ ih
  | tup h _ ih => exact .tup h ih
  | nil => exact .nil
  | cons _ _ i1 i2 => exact .cons i1 i2
theorem CellOk.sub {al' : List (Option Addr)} (k : ∀ b : Addr, some b ∈ al' → some b ∈ g.al) {a : Addr} {c : Cell} (h : CellOk K g H a c) : CellOk K ⟨al', g.hid⟩ H a c := by
  cases c with
  | lst ds => obtain ⟨xs, h, t⟩ := h; exact ⟨xs, h, R0s.mapR (fun z => z.sub k) t⟩
  | dic b kvs =>
    rcases h with ⟨hb, ps, h, t⟩ | ⟨hb, ps, h, t⟩
    · exact .inl ⟨hb, ps, h, Paired.mapP t fun p q z => ⟨z.1, z.2.sub k⟩⟩
    · exact .inr ⟨hb, ps, h, Paired.mapP t fun p q z => ⟨z.1, z.2.sub k⟩⟩
  | dead => exact h.elim
theorem RS.pick {al' : List (Option Addr)} (rs : RS K g H S) (sub : ∀ b : Addr, some b ∈ al' → some b ∈ g.al) (len : al'.length = S'.length) (nd : ∀ (n m : Nat) (a : Addr), al'[n]? = some (some a) → al'[m]? = some (some a) → n = m)
    (ok : ∀ (n : Nat) (c : Cell), S'[n]? = some c → (al'[n]? = some none ∧ c = .dead) ∨ ∃ (a : Addr) (m : Nat), al'[n]? = some (some a) ∧ g.al[m]? = some (some a) ∧ S[m]? = some c) : RS K ⟨al', g.hid⟩ H S' := by
  refine ⟨len, nd, fun n c e => ?_, fun a m => ⟨(rs.hid a m).1, fun z => (rs.hid a m).2 (sub a z)⟩⟩
  rcases ok n c e with z | ⟨a, m, h1, h2, h3⟩
  · exact .inl z
  · rcases rs.ok m c h3 with ⟨z, _⟩ | ⟨a', h4, k⟩
    · rw [h2] at z; cases Option.some.inj z
    · rw [h2] at h4
      have : a = a' := Option.some.inj (Option.some.inj h4)
      subst this
      exact .inr ⟨a, h1, k.sub sub⟩
theorem take_get {α : Type} {l : List α} {n i : Nat} {x : α} (h : (l.take n)[i]? = some x) : i < n ∧ l[i]? = some x := by
  rw [List.getElem?_take] at h
  split at h
  · exact ⟨‹_›, h⟩
  · cases h
theorem trunc_ok (rs0 : RS K g H S) (x : Ext g H g' H') (rs : RS K g' H' S') : Ext g H ⟨g'.al.take S.length, g'.hid⟩ H' ∧ RS K ⟨g'.al.take S.length, g'.hid⟩ H' (S'.take S.length) := by
  have sub : ∀ b : Addr, some b ∈ g'.al.take S.length → some b ∈ g'.al := fun b m => List.mem_of_mem_take m
  have keep : ∀ {n : Nat} {o : Option Addr}, n < S.length → g'.al[n]? = some o → (g'.al.take S.length)[n]? = some o := fun {n o} h e => by
    rw [List.getElem?_take, if_pos h]; exact e
  have lt : ∀ {n : Nat} {o : Option Addr}, g.al[n]? = some o → n < S.length := fun {n o} e => by rw [← rs0.len]; exact (List.getElem?_eq_some_iff.mp e).1
  refine ⟨⟨x.hid, x.grow, fun n a e => (x.live n a e).imp (keep (lt e)) (keep (lt e)), fun n e => keep (lt e) (x.dead n e), fun a m => x.new a (sub a m), x.keep⟩, ?_⟩
  refine rs.pick sub (by rw [List.length_take, List.length_take, rs.len]) (fun n m a h1 h2 => rs.nd n m a (take_get h1).2 (take_get h2).2) fun n c e => ?_
  obtain ⟨h1, h2⟩ := take_get e
  rcases rs.ok n c h2 with ⟨z, q⟩ | ⟨a, z, _⟩
  · exact .inl ⟨keep h1 z, q⟩
  · exact .inr ⟨a, n, keep h1 z, z, h2⟩
end
/-- what leaves a def: data; a dict of its own -/
def outW (kp : Bool) (n : Nat) (w : Wv) (S : Sto) : Option (Wv × Sto) := match w with
  | .d x => some (.d x, S.take n)
  | .s xs => some (.s xs, S.take n)
  | .r k => if Nat.blt k n then some (.r k, S.take n) else match S[k]? with
    | some (.lst ds) => if kp then some (.r n, S.take n ++ [.lst ds]) else some (.d (.list ds), S.take n)
    | some (.dic b kvs) => some (.r n, S.take n ++ [.dic b kvs])
    | _ => none
section
variable {K : PySem.W.Frag} {g g' : G} {H H' : Hp} {S S' S2 : Sto}
theorem out_cell (rs0 : RS K g H S) (x : Ext g H g' H') (rs : RS K g' H' S2) {k : Nat} {a : Addr} {c0 : Cell} (hk : ¬ k < S.length) (h1 : g'.al[k]? = some (some a)) (hd : S2[k]? = some c0) : ∃ g'', Ext g H g'' H' ∧ RS K g'' H' (S2.take S.length ++ [c0]) ∧ RW K g'' H' (.ref a) (.r S.length) := by
  obtain ⟨x1, rs1⟩ := trunc_ok rs0 x rs
  have sub : ∀ b : Addr, some b ∈ g'.al.take S.length → some b ∈ g'.al := fun b m => List.mem_of_mem_take m
  have hlen : g'.al.length = S2.length := rs.len
  have kl : k < S2.length := (List.getElem?_eq_some_iff.mp hd).1
  have tl : (g'.al.take S.length).length = S.length := by rw [List.length_take]; omega
  have tl2 : (S2.take S.length).length = S.length := by rw [List.length_take]; omega
  have sub2 : ∀ b : Addr, some b ∈ g'.al.take S.length ++ [some a] → some b ∈ g'.al := fun b m => by
    rcases List.mem_append.mp m with m | m
    · exact sub b m
    · have : b = a := by simpa using m
      subst this
      exact List.mem_of_getElem? h1
  have cs : ∀ {i : Nat} {b : Addr}, (g'.al.take S.length ++ [some a])[i]? = some (some b) → (i < S.length ∧ g'.al[i]? = some (some b)) ∨ (i = S.length ∧ b = a) := fun {i b} hi => by
    rw [List.getElem?_append, tl] at hi
    split at hi
    · exact .inl ⟨(take_get hi).1, (take_get hi).2⟩
    · have hz : i - S.length = 0 := by
        rcases Nat.eq_zero_or_pos (i - S.length) with z | z
        · exact z
        · rw [List.getElem?_eq_none (show [some a].length ≤ _ from z)] at hi; cases hi
      rw [hz] at hi
      exact .inr ⟨by omega, by simpa using hi.symm⟩
  have here : (g'.al.take S.length ++ [some a])[S.length]? = some (some a) := by
    rw [List.getElem?_append_right (by omega), tl, Nat.sub_self]; rfl
  have keep : ∀ {i : Nat} {o : Option Addr}, (g'.al.take S.length)[i]? = some o → (g'.al.take S.length ++ [some a])[i]? = some o := fun {i o} z => by
    rw [List.getElem?_append_left (List.getElem?_eq_some_iff.mp z).1]; exact z
  refine ⟨⟨g'.al.take S.length ++ [some a], g'.hid⟩, ⟨x1.hid, x1.grow, fun n b e => (x1.live n b e).imp keep keep, fun n e => keep (x1.dead n e), fun b m => x.new b (sub2 b m), x1.keep⟩, ?_, a, rfl, .inl here⟩
  refine rs.pick sub2 (by simp [tl, tl2]) (fun n m b e1 e2 => ?_) fun n c e => ?_
  · rcases cs e1 with ⟨l1, q1⟩ | ⟨l1, q1⟩ <;> rcases cs e2 with ⟨l2, q2⟩ | ⟨l2, q2⟩
    · exact rs.nd n m b q1 q2
    · subst q2
      have := rs.nd n k b q1 h1
      omega
    · subst q1
      have := rs.nd m k b q2 h1
      omega
    · omega
  · rw [List.getElem?_append, tl2] at e
    split at e
    · obtain ⟨l1, q1⟩ := take_get e
      rcases rs.ok n c q1 with ⟨z, q⟩ | ⟨b, z, _⟩
      · refine .inl ⟨keep ?_, q⟩
        rw [List.getElem?_take, if_pos l1]; exact z
      · refine .inr ⟨b, n, keep ?_, z, q1⟩
        rw [List.getElem?_take, if_pos l1]; exact z
    · have hz : n - S.length = 0 := by
        rcases Nat.eq_zero_or_pos (n - S.length) with z | z
        · exact z
        · rw [List.getElem?_eq_none (show [c0].length ≤ _ from z)] at e; cases e
      rw [hz] at e
      have hc : c0 = c := by simpa using e
      subst hc
      have hn : n = S.length := by omega
      subst hn
      exact .inr ⟨a, k, here, h1, hd⟩
theorem outW_ok (rs0 : RS K g H S) (x : Ext g H g' H') (rs : RS K g' H' S2) {v : V} {w w' : Wv} (rv : RW K g' H' v w) {kp : Bool} (e : outW kp S.length w S2 = some (w', S')) : ∃ g'', Ext g H g'' H' ∧ RS K g'' H' S' ∧ RW K g'' H' v w' := by
  obtain ⟨x1, rs1⟩ := trunc_ok rs0 x rs
  have sub : ∀ b : Addr, some b ∈ g'.al.take S.length → some b ∈ g'.al := fun b m => List.mem_of_mem_take m
  have hlen : g'.al.length = S2.length := rs.len
  cases w with
  | d y => cases e; exact ⟨_, x1, rs1, R0.sub sub rv⟩
  | s ds =>
    cases e
    obtain ⟨a, vs, rfl, h, t⟩ := rv
    refine ⟨_, x1, rs1, a, vs, rfl, ?_, R0s.mapR (fun z => R0.sub sub z) t⟩
    rcases h with ⟨h, f⟩ | h
    · exact .inl ⟨h, fun m => f.1 (sub a m), f.2⟩
    · exact .inr h
  | r k =>
    obtain ⟨a, rfl, ha⟩ := rv
    unfold outW at e
    simp only at e
    split at e
    · rename_i hk
      cases e
      have hk := Nat.blt_eq.mp hk
      refine ⟨_, x1, rs1, a, rfl, ?_⟩
      show (g'.al.take S.length)[k]? = _ ∨ (g'.al.take S.length)[k]? = _
      rw [List.getElem?_take, if_pos hk]
      exact ha
    · rename_i hk
      have hk : ¬ k < S.length := fun z => hk (Nat.blt_eq.mpr z)
      split at e
      · rename_i ds hd
        split at e
        · cases e
          exact out_cell rs0 x rs hk (rs.at_lst ha hd).1 hd
        · cases e
          obtain ⟨h1, xs, h2, t⟩ := rs.at_lst ha hd
          refine ⟨_, x1, rs1, R0.lst h2 ⟨fun m => ?_, fun m => (rs.hid a m).2 (List.mem_of_getElem? h1)⟩ (R0s.mapR (fun z => R0.sub sub z) t)⟩
          obtain ⟨i, hi⟩ := List.mem_iff_getElem?.mp m
          obtain ⟨hi1, hi2⟩ := take_get hi
          have := rs.nd i k a hi2 h1
          omega
      · rename_i bb kvs hd
        cases e
        have h1 : g'.al[k]? = some (some a) := by
          rcases rs.ok k _ hd with ⟨_, z⟩ | ⟨a', h, _⟩
          · cases z
          · rcases ha with z | z
            · exact z
            · rw [h] at z; cases Option.some.inj z
        exact out_cell rs0 x rs hk h1 hd
      · cases e
end
abbrev FW := List Wv → Sto → Option (Wv × Sto)
def env0 (N : Nat) (ws : List Wv) : Env' := ws.map some ++ List.replicate (N - ws.length) none
/-- a def of n parameters, N slots, its body mb -/
def fnM (kp : Bool) (n N : Nat) (mb : MS) : FW := fun ws S => if ws.length == n then (mb (env0 N ws) S).bind fun p => match p.1 with
    | .rt w => outW kp S.length w p.2.2
    | .nx => some (.d .none, p.2.2.take S.length)
    | _ => none
  else none
def spE (K : PySem.W.Frag) (f : FW) : Sp := fun vs H Q _ => ∃ g S ws w S', RS K g H S ∧ RWs K g H vs ws ∧ f ws S = some (w, S') ∧ Fin K g H S' fun g' H' => ∀ v, RW K g' H' v w → Q v H'
structure DefOk (P : Program) (w : World) (K : PySem.W.Frag) (mg : Str → Option Value) (base : Heap) (k : Nat) (x : Str) (f : FW) : Prop where
  ex : ∃ (a : Addr) (fd : FuncData) (ps : List Str), FnOk P w K mg base CX0 k a fd ps (spE K f) ∧ mg x = some (.ref a) ∧ PySem.W.keepIn K (.ref a) = true ∧ Binds K fd ps []
theorem re_start {K : PySem.W.Frag} {g : G} {H : Hp} {vs : List V} {ws : List Wv} (N : List Str) (h : RWs K g H vs ws) : RE K g H (L2.start N vs) (env0 N.length ws) := by
  unfold L2.start env0
  rw [h.length]
  induction h with
  | nil =>
    generalize N.length - ([] : List Wv).length = n
    induction n with
    | zero => exact .nil
    | succ n ih => exact .cons (fun w e => by cases e) ih
  | cons r t ih =>
    rename_i vs ws
    show Paired _ (_ :: _) (_ :: _)
    refine .cons (fun w e => ⟨_, rfl, by cases e; exact r⟩) ?_
    generalize N.length - (_ :: ws : List Wv).length = n
    clear ih
    induction t with
    | nil =>
      induction n with
      | zero => exact .nil
      | succ n ih => exact .cons (fun w e => by cases e) ih
    | cons r t ih => exact .cons (fun w e => ⟨_, rfl, by cases e; exact r⟩) ih
section
variable {P : Program} {w : World} {K : PySem.W.Frag} {mg : Str → Option Value} {base : Heap} {x qual : Str} {params : Arguments} {body : List Stmt} {scope : Scope} {f : Addr} {fd : FuncData} {N ps : List Str} {k : Nat}
theorem def_fn (F : FunD K x qual params body scope [] [] f fd) (S : FnScope N ps scope) (hm : mg x = some (.ref f))
    (hb : ∀ (kV doc pm : Value) (an : Option Addr) (cdv ct : Value) (us : List Value), us.length = ps.length → bindArgs (PySem.W.fnOf x qual params body scope .none kV doc pm an cdv ct) ⟨us, []⟩ = pure (ps.zip us)) (kp : Bool) (mb : MS)
    (hbody : ∀ (cdv : Value) (A : Around) (outer : List Env) (s : Shared) (H : Hp) (E : XK), Room k (A.deeper (envOfC qual scope s.heap.objs.size f cdv)) → ASs (cxOf CX0 P w K mg base N qual scope f cdv A outer s H E).nox body mb) :
    FnOk P w K mg base CX0 (k + 1) f fd ps (spE K (fnM kp ps.length N.length mb)) := by
  refine F.ok S (fun vs H Q E h => ?_) (fun cdv A outer s H vs Q E hr h => ⟨tS K mb, PSs.nox (hbody cdv A outer s H E hr), ?_⟩)
  · obtain ⟨g, S0, ws, w', S', rs, rv, e, fin⟩ := h
    unfold fnM at e
    split at e
    · rename_i hl
      rw [rv.length]
      simpa using hl
    · cases e
  · obtain ⟨g, S0, ws, w', S', rs, rv, e, fin⟩ := h
    unfold fnM at e
    split at e
    · simp only [Option.bind_eq_some_iff] at e
      obtain ⟨⟨fl, ρ', S2⟩, e1, e2⟩ := e
      refine ⟨g, S0, _, fl, ρ', S2, rs, re_start N rv, e1, fun g1 H1 x1 rs1 => ?_⟩
      cases fl with
      | nx =>
        cases e2
        intro σ' _
        obtain ⟨x2, rs2⟩ := trunc_ok rs x1 rs1
        exact fin _ _ x2 rs2 _ .non
      | bk => cases e2
      | ct => cases e2
      | rt w2 =>
        intro v rv2
        obtain ⟨g2, x2, rs2, r2⟩ := outW_ok rs x1 rs1 rv2 e2
        exact fin g2 H1 x2 rs2 v r2
    · cases e
theorem def_ok (F : FunD K x qual params body scope [] [] f fd) (S : FnScope N ps scope) (hm : mg x = some (.ref f))
    (hb : ∀ (kV doc pm : Value) (an : Option Addr) (cdv ct : Value) (us : List Value), us.length = ps.length → bindArgs (PySem.W.fnOf x qual params body scope .none kV doc pm an cdv ct) ⟨us, []⟩ = pure (ps.zip us)) (kp : Bool) (mb : MS)
    (hbody : ∀ (cdv : Value) (A : Around) (outer : List Env) (s : Shared) (H : Hp) (E : XK), Room k (A.deeper (envOfC qual scope s.heap.objs.size f cdv)) → ASs (cxOf CX0 P w K mg base N qual scope f cdv A outer s H E).nox body mb) :
    DefOk P w K mg base (k + 1) x (fnM kp ps.length N.length mb) :=
  ⟨f, fd, ps, def_fn F S hm hb kp mb hbody, hm, F.kp, F.bindsN hb⟩
end
section
variable {X : Cx} {x : Str} {k : Nat} {f : FW} {e : Expr} {es : List Expr} {ms : M (List Wv)} {p pos : Pos}
def mFn (f : FW) (ms : M (List Wv)) : M Wv := fun ρ S => (ms ρ S).bind fun p => f p.1 p.2
theorem ae_call (D : DefOk X.prog X.w X.K X.mg X.base k x f) (hr : Room k X.A) (ha : AA X (e :: es) ms) (hg : Gl X x := by rfl) (hdb : (x == ("__debug__" : Str)) = false := by decide) (he : starEach (e :: es) X.env = (false, eval e X.env) :: starEach es X.env := by rfl) (hpl : (backTo pos (starEach es X.env)).any (·.1) = false := by rfl) :
    AE X (.Call (.Name x p) (e :: es) [] pos) (mFn f ms) := by
  obtain ⟨a, fd, ps, F, hm, hk, hb⟩ := D.ex
  refine PE.imp (pe_call F hr hg hm hk hb .nil pass0 ha hdb he hpl) fun σ H Q ⟨g, S, ρ, w, S', rs, re, e, fin⟩ => ?_
  unfold mFn at e
  simp only [Option.bind_eq_some_iff] at e
  obtain ⟨⟨ws, S1⟩, e1, e2⟩ := e
  refine ⟨g, S, ρ, ws, S1, rs, re, e1, fun g1 H1 x1 rs1 vs rv => ?_⟩
  show spE X.K f (vs ++ []) H1 Q E0
  rw [List.append_nil]
  exact ⟨g1, S1, ws, w, S', rs1, rv, e2, fin.mono x1⟩
theorem ae_call0 (D : DefOk X.prog X.w X.K X.mg X.base k x f) (hr : Room k X.A) (hg : Gl X x := by rfl) (hdb : (x == ("__debug__" : Str)) = false := by decide) : AE X (.Call (.Name x p) [] [] pos) (mFn f mNil) := by
  obtain ⟨a, fd, ps, F, hm, hk, hb⟩ := D.ex
  refine PE.imp (pe_call0 F hr hg hm hk hb .nil pass0 hdb) fun σ H Q ⟨g, S, ρ, w, S', rs, re, e, fin⟩ => ?_
  exact ⟨g, S, [], w, S', rs, .nil, e, fin⟩
theorem cal_of {CX : CXT} {P : Program} {w : World} {K : PySem.W.Frag} {mg : Str → Option Value} {base : Heap} {N : List Str} {qual : Str} {scope : Scope} {f : Addr} {cdv : Value} {A : Around} {outer : List Env} {s : Shared} {H : Hp} {E : XK} {k : Nat} (hr : Room k (A.deeper (envOfC qual scope s.heap.objs.size f cdv))) : Cal (cxOf CX P w K mg base N qual scope f cdv A outer s H E).nox :=
  ⟨rfl, by have := hr.un; show (A.deeper (envOfC qual scope s.heap.objs.size f cdv)).units + 64 < cLine; omega⟩
end
end Ev
set_option linter.all false
set_option maxRecDepth 100000
set_option maxHeartbeats 4000000
/-! Ev11: sorted, min, max of data. -/
namespace Ev
open PySem PySem.Spec PyProof.Rows L2 PySem.W
/-! ### tuples, the empty one too, can be sorted -/
section
variable {prog : Program} {w : World} {A : Around} {s : Shared}
theorem oneLt_tup {xs ys : List PyData} {a b : Value} {as bs : List Addr} {E : Value → Shared → Prop} {Q : Bool → Shared → Prop} (ra : Reads s.heap a (.tuple xs) as) (rb : Reads s.heap b (.tuple ys) bs) (h : alike (.tuple xs) (.tuple ys) = true)
    (hu : A.units + min (PyData.tuple xs).depth (PyData.tuple ys).depth < cLine) (hq : Q (dataLt (.tuple xs) (.tuple ys)) s) : wpAny (model prog w) A (oneLt' true a b) Q E s := by
  have hal : alikeAll xs ys = true := by simpa [alike] using h
  cases ra with
  | @tuple l o vs n _ as₁ h1 h2 h3 h4 =>
    cases rb with
    | @tuple l' o' vs' n' _ bs₁ k1 k2 k3 k4 =>
      have n1 : vs.size = xs.length := by simpa using SeqAt.ReadsAll.length _ _ _ h4
      have n2 : vs'.size = ys.length := by simpa using SeqAt.ReadsAll.length _ _ _ k4
      rw [dataLt_tuple, ← firstLt_toks xs ys hal, ← n1, ← n2] at hq
      obtain ⟨cls, dd, data, sl⟩ := o
      obtain ⟨cls', dd', data', sl'⟩ := o'
      simp only at h2 h3 k2 k3
      subst h2 h3 k2 k3
      rw [oneLt'_eq]
      simp only [if_true]
      refine wpAny_bind (wpAny_cRoomFor (SeqAt.room_here hu) ?_)
      refine wpAny_bind (wpAny_callSpecialIfBound?_slot (T := "tuple") ⟨_, h1, rfl⟩ F.slot_tuple_lt (call_meets F.slot_tuple_lt ⟨_, h1, rfl⟩ F.entry_tuple_lt (F.args_tuple_lt_2 _ _)
        (SeqAt.tuple_ltAt l l' vs vs' n n' dd dd' sl sl' (SeqAt.pairEq xs ys) (fun j => dataLt (xs.getD j .none) (ys.getD j .none))) ⟨h1, k1, fun j j1 j2 => ?_, fun j j1 j2 hj => ?_, ?_⟩))
      · have := eqAt_alikeAll xs ys A.in1 s vs.toList vs'.toList _ _ h4 k4 hal (SeqAt.room_in hu) j (by simpa using j1) (by simpa using j2)
        simpa using this
      · have := rcLt_alikeAll xs ys A.in1 s vs.toList vs'.toList _ _ h4 k4 hal (SeqAt.room_in hu) j (by simpa using j1) (by simpa using j2) hj
        simpa using this
      · exact wpAny_truthy_bool hq
theorem first_of {v : Value} {d : List PyData} {as : List Addr} {M : Model} {E : Value → Shared → Prop} {Q : Option Value → Shared → Prop} (r : Reads s.heap v (.tuple d) as) (h : ∀ o : Option Value, o.isSome = !d.isEmpty → Q o s) : wpAny M A (firstOfTuple' v) Q E s := by
  cases r with
  | @tuple a o vs n _ _ h1 h2 h3 h4 =>
    rw [kas_first_eq]
    refine wpAny_bind (Looks.here (show Looks M s.heap (typeOf (.ref a)) o.cls from (Looks.ld h1).andThen .now) ?_)
    rw [h2, if_neg (by first | decide | simp)]
    refine wpAny_bind (listItems_at h1 h3 (wpAny_pure ?_))
    have l1 : vs.size = d.length := by simpa using SeqAt.ReadsAll.length _ _ _ h4
    refine h _ ?_
    cases d with
    | nil =>
      have z : vs[0]? = none := by simp at l1; simp [l1]
      rw [z]; rfl
    | cons x r =>
      have hz : 0 < vs.size := by rw [l1]; exact Nat.succ_pos _
      rw [Array.getElem?_eq_getElem hz]
      rfl
def neT : PyData → Bool
  | .tuple xs => !xs.isEmpty
  | _ => false
theorem firstsT {vs : List Value} {ds : List PyData} (e : EachIs (fun v d => ∃ as, Reads s.heap v d as) vs ds) : ∀ {M : Model} {E : Value → Shared → Prop} {Q : List (Option Value) → Shared → Prop}, (∀ d ∈ ds, ∃ xs, d = .tuple xs) →
    (∀ os : List (Option Value), os.map Option.isSome = ds.map neT → Q os s) → wpAny M A (vs.mapM firstOfTuple') Q E s := by
  induction e with
  | nil =>
    intro M E Q _ h
    rw [List.mapM_nil]
    exact wpAny_pure (h [] rfl)
  | cons r t ih =>
    rename_i v d vs ds
    intro M E Q ht h
    obtain ⟨as, r⟩ := r
    obtain ⟨xs, rfl⟩ := ht d List.mem_cons_self
    rw [List.mapM_cons]
    refine wpAny_bind (first_of r fun o ho => ?_)
    refine wpAny_bind (ih (fun d hd => ht d (List.mem_cons_of_mem _ hd)) fun os hos => wpAny_pure (h (o :: os) ?_))
    rw [List.map_cons, List.map_cons, hos, ho]
    rfl
theorem type_tup {M : Model} {h : Heap} {v : Value} {d : List PyData} {as : List Addr} (r : Reads h v (.tuple d) as) : Looks M h (typeOf v) (.type "tuple") := by
  have := looks_reads (M := M) r
  exact this
/-- alike tuples, one of them may be empty -/
theorem SortsAt_tups {vs : List Value} {ds : List PyData} (e : EachIs (fun v d => ∃ as, Reads s.heap v d as) vs ds) (hal : AllAlike ds) (ht : ∀ d ∈ ds, ∃ xs, d = .tuple xs) (he : ∃ d ∈ ds, d = .tuple []) (hu : ∀ d, d ∈ ds → A.units + d.depth < cLine) : SortsAt prog w A s (dataKind s.heap ds) vs := by
  have room : ∀ {d d' : PyData}, d ∈ ds → A.units + min d.depth d'.depth < cLine := fun {d d'} hd => Nat.lt_of_le_of_lt (Nat.add_le_add_left (Nat.min_le_left _ _) _) (hu d hd)
  have ltG : H.LtAt prog w A s (dataKind s.heap ds) general' := by
    intro E x y a b Q ha hb hq
    obtain ⟨d, as, hd, ra, rfl⟩ := dataKind_inv ha
    obtain ⟨d', as', hd', rb, rfl⟩ := dataKind_inv hb
    obtain ⟨xs, rfl⟩ := ht d hd
    show wpAny _ A (oneLt' false x y) Q E s
    exact oneLt_alike (fun z => by cases z) ra rb (hal _ hd _ hd') (by simp) (room hd) hq
  have ltO : H.LtAt prog w A s (dataKind s.heap ds) oneType' := by
    intro E x y a b Q ha hb hq
    obtain ⟨d, as, hd, ra, rfl⟩ := dataKind_inv ha
    obtain ⟨d', as', hd', rb, rfl⟩ := dataKind_inv hb
    obtain ⟨xs, rfl⟩ := ht d hd
    obtain ⟨ys, rfl⟩ := ht d' hd'
    rw [keyLt'_oneType]
    exact oneLt_tup ra rb (hal _ hd _ hd') (room hd) hq
  refine ⟨fun v hv => ?_, ?_⟩
  · obtain ⟨d, hd, as, r⟩ := e.left v hv
    exact ⟨_, dataKind_some hal hd r⟩
  · cases ds with
    | nil => obtain ⟨d, hd, _⟩ := he; cases hd
    | cons d₀ ds₀ =>
      obtain ⟨x₀, e₀⟩ := ht d₀ List.mem_cons_self
      have nall : ∀ os : List (Option Value), os.map Option.isSome = (d₀ :: ds₀).map neT → os.toArray.all (·.isSome) = false := fun os hos => by
        obtain ⟨d, hd, rfl⟩ := he
        rw [List.all_toArray]
        have : false ∈ os.map Option.isSome := by
          rw [hos]
          exact List.mem_map.mpr ⟨_, hd, rfl⟩
        obtain ⟨o, ho, hf⟩ := List.mem_map.mp this
        exact Bool.eq_false_iff.mpr fun z => by
          have := List.all_eq_true.mp z o ho
          rw [hf] at this
          cases this
      have fst : ∀ os : List (Option Value), os.map Option.isSome = (d₀ :: ds₀).map neT → (os.toArray[0]?.bind id).isSome = !x₀.isEmpty := fun os hos => by
        cases os with
        | nil => simp at hos
        | cons o os =>
          rw [List.map_cons, List.map_cons, e₀] at hos
          have := (List.cons.inj hos).1
          have : o.isSome = !x₀.isEmpty := this
          simp only [List.getElem?_toArray, List.getElem?_cons_zero, Option.bind_some, id_eq]
          exact this
      by_cases hx : x₀.isEmpty = true
      · refine ⟨oneType', ltO, fun h2 E Q hq => ?_⟩
        rw [kat_kind_eq, List.mapM_toArray, map_eq_pure_bind]
        refine wpAny_bind (wpAny_bind (firstsT e ht fun os hos => wpAny_pure ?_))
        rw [if_neg (by rw [nall os hos]; decide), if_neg (by rw [fst os hos, hx]; decide)]
        rw [oneTypeOnly'_eq, List.mapM_toArray, map_eq_pure_bind]
        refine wpAny_bind (wpAny_bind (wpAny_bind (kas_mapM (r := Value.type "tuple") _ (fun v hv Q' hq => ?_) (wpAny_pure ?_))))
        · obtain ⟨d, hd, as, r⟩ := e.left v hv
          obtain ⟨xs, rfl⟩ := ht d hd
          exact (type_tup r).here hq
        · cases vs with
          | nil => simp at h2
          | cons v vs =>
            have hall : ((List.map (fun _ => Value.type "tuple") (v :: vs)).toArray.all fun x => x == Value.type "tuple") = true := by
              simp only [List.all_toArray, List.all_map, List.all_eq_true]
              intro _ _
              exact beq_self_eq_true _
            have h0 : (List.map (fun _ => Value.type "tuple") (v :: vs)).toArray[0]? = some (Value.type "tuple") := by simp
            rw [h0]
            simp only [hall, if_true]
            exact wpAny_pure (wpAny_pure hq)
      · refine ⟨general', ltG, fun h2 E Q hq => ?_⟩
        rw [kat_kind_eq, List.mapM_toArray, map_eq_pure_bind]
        refine wpAny_bind (wpAny_bind (firstsT e ht fun os hos => wpAny_pure ?_))
        rw [if_neg (by rw [nall os hos]; decide), if_pos (by rw [fst os hos]; simpa using hx)]
        exact wpAny_pure hq
/-- at most one -/
theorem SortsAt_few {vs : List Value} {ds : List PyData} (e : EachIs (fun v d => ∃ as, Reads s.heap v d as) vs ds) (hal : AllAlike ds) (hn : ∀ d ∈ ds, d ≠ .none) (hl : ds.length ≤ 1) (hu : ∀ d, d ∈ ds → A.units + d.depth < cLine) : SortsAt prog w A s (dataKind s.heap ds) vs := by
  refine ⟨fun v hv => ?_, general', ?_, fun h2 => ?_⟩
  · obtain ⟨d, hd, as, r⟩ := e.left v hv
    exact ⟨_, dataKind_some hal hd r⟩
  · intro E x y a b Q ha hb hq
    obtain ⟨d, as, hd, ra, rfl⟩ := dataKind_inv ha
    obtain ⟨d', as', hd', rb, rfl⟩ := dataKind_inv hb
    show wpAny _ A (oneLt' false x y) Q E s
    exact oneLt_alike (fun z => by cases z) ra rb (hal _ hd _ hd') (hn _ hd) (Nat.lt_of_le_of_lt (Nat.add_le_add_left (Nat.min_le_left _ _) _) (hu d hd)) hq
  · rw [e.length] at h2
    omega
theorem SortsAt_homog {vs : List Value} {ds : List PyData} (e : EachIs (fun v d => ∃ as, Reads s.heap v d as) vs ds) (h : homog ds = true) (hu : A.units + 9 < cLine) : SortsAt prog w A s (dataKind s.heap ds) vs := by
  obtain ⟨hal, hn, hd⟩ := homog_alike h
  have hu' : ∀ d, d ∈ ds → A.units + d.depth < cLine := fun d m => Nat.lt_of_le_of_lt (Nat.add_le_add_left (hd d m) _) hu
  have hal' : AllAlike ds := fun x hx y hy => hal x hx y hy
  by_cases ht : ∀ d ∈ ds, ∃ xs, d = .tuple xs
  · by_cases he : ∃ d ∈ ds, d = .tuple []
    · exact SortsAt_tups e hal' ht he hu'
    · refine SortsAt.data e hal' (.inl fun d hd => ?_) hu'
      obtain ⟨xs, rfl⟩ := ht d hd
      cases xs with
      | nil => exact absurd ⟨_, hd, rfl⟩ he
      | cons x r => exact ⟨x, r, rfl⟩
  · refine SortsAt.data e hal' (.inr fun d hd => ⟨hn d hd, fun xs z => ?_⟩) hu'
    subst z
    refine ht fun d' hd' => ?_
    have := hal _ hd _ hd'
    cases d' <;> simp [alike] at this
    exact ⟨_, rfl⟩
end
end Ev
set_option linter.all false
set_option maxRecDepth 100000
set_option maxHeartbeats 4000000
/-! Ev12: the sort as an insertion; sorted, min, max as calls. -/
namespace Ev
open PySem PySem.Spec PyProof.Rows L2 PySem.W
/-! ### insertion -/
section
variable {α : Type}
def ins (lt : α → α → Bool) (x : α) : List α → List α
  | [] => [x]
  | y :: ys => if lt y x then y :: ins lt x ys else x :: y :: ys
def isort (lt : α → α → Bool) : List α → List α
  | [] => []
  | x :: xs => ins lt x (isort lt xs)
theorem ins_perm (lt : α → α → Bool) (x : α) : ∀ ys : List α, (ins lt x ys).Perm (x :: ys)
  | [] => .refl _
  | y :: ys => by
    unfold ins
    split
    · exact ((ins_perm lt x ys).cons y).trans (.swap x y ys)
    · exact .refl _
theorem isort_perm (lt : α → α → Bool) : ∀ xs : List α, (isort lt xs).Perm xs
  | [] => .refl _
  | x :: xs => (ins_perm lt x _).trans ((isort_perm lt xs).cons x)
theorem ins_congr {f g : α → α → Bool} {x : α} : ∀ {ys : List α}, (∀ y ∈ ys, f y x = g y x) → ins f x ys = ins g x ys
  | [], _ => rfl
  | y :: ys, h => by
    unfold ins
    rw [h y List.mem_cons_self, ins_congr fun z hz => h z (List.mem_cons_of_mem _ hz)]
theorem isort_congr {f g : α → α → Bool} : ∀ {xs : List α}, (∀ x ∈ xs, ∀ y ∈ xs, f x y = g x y) → isort f xs = isort g xs
  | [], _ => rfl
  | x :: xs, h => by
    unfold isort
    rw [isort_congr (xs := xs) fun a ha b hb => h a (List.mem_cons_of_mem _ ha) b (List.mem_cons_of_mem _ hb)]
    exact ins_congr fun y hy => h y (List.mem_cons_of_mem _ ((isort_perm g xs).mem_iff.mp hy)) x List.mem_cons_self
open SrtO
theorem ins_srtd {lt : α → α → Bool} (O : Swo lt) {x : α} : ∀ {ys : List α}, Srtd lt ys → Srtd lt (ins lt x ys)
  | [], _ => List.pairwise_singleton _ _
  | y :: ys, h => by
    unfold ins
    have h1 := List.pairwise_cons.mp h
    split
    · rename_i hlt
      refine List.pairwise_cons.mpr ⟨fun z hz => ?_, ins_srtd O h1.2⟩
      rcases List.mem_cons.mp ((ins_perm lt x ys).mem_iff.mp hz) with rfl | hz
      · exact O.asym _ _ hlt
      · exact h1.1 z hz
    · rename_i hlt
      have hlt : lt y x = false := by simpa using hlt
      refine List.pairwise_cons.mpr ⟨fun z hz => ?_, h⟩
      rcases List.mem_cons.mp hz with rfl | hz
      · exact hlt
      · exact O.tr _ _ _ hlt (h1.1 z hz)
theorem isort_srtd {lt : α → α → Bool} (O : Swo lt) : ∀ xs : List α, Srtd lt (isort lt xs)
  | [] => List.Pairwise.nil
  | x :: xs => ins_srtd O (isort_srtd O xs)
theorem ins_cls {lt : α → α → Bool} (O : Swo lt) {x z : α} : ∀ {ys : List α}, (ins lt x ys).filter (eqv lt z) = (x :: ys).filter (eqv lt z)
  | [] => rfl
  | y :: ys => by
    unfold ins
    split
    · rename_i hlt
      rw [List.filter_cons, ins_cls O, List.filter_cons, List.filter_cons, List.filter_cons]
      by_cases hx : eqv lt z x = true
      · have hy : eqv lt z y = false := by
          rw [eqv_trans O hx]
          exact Bool.eq_false_iff.mpr fun q => by
            have := (eqv_iff.mp q).2
            rw [hlt] at this
            cases this
        simp [hx, hy]
      · simp [hx]
    · rfl
theorem isort_stb {lt : α → α → Bool} (O : Swo lt) : ∀ xs : List α, Stb lt (isort lt xs) xs
  | [] => .refl _
  | x :: xs => by
    have h := isort_stb O xs
    refine ⟨isort_perm lt (x :: xs), fun z => ?_⟩
    show (ins lt x (isort lt xs)).filter (eqv lt z) = _
    rw [ins_cls O, List.filter_cons, List.filter_cons, h.cls z]
end
open SrtO
theorem swo_data : Swo dataLt where
  asym := fun x y h => by
    cases q : dataLt y x with
    | false => rfl
    | true =>
      have := (listOrd itemOrd).trans _ _ _ h q
      rw [(listOrd itemOrd).irrefl] at this
      cases this
  tr := fun x y z h1 h2 => by
    cases q : dataLt z x with
    | false => rfl
    | true =>
      rcases (listOrd itemOrd).negTrans _ (keyToks y) _ q with a | a
      · rw [show dataLt z y = true from a] at h2; cases h2
      · rw [show dataLt y x = true from a] at h1; cases h1
theorem dataLe_false (x y : PyData) : dataLe false (fun b : PyData => b) x y = !dataLt y x := rfl
theorem merge_isort (ds : List PyData) : ds.mergeSort (dataLe false fun b => b) = isort dataLt ds := by
  have O := swo_data
  have tr : ∀ a b c : PyData, dataLe false (fun b => b) a b = true → dataLe false (fun b => b) b c = true → dataLe false (fun b => b) a c = true := fun a b c h1 h2 => by
    rw [dataLe_false] at h1 h2 ⊢
    have h1 : dataLt b a = false := by simpa using h1
    have h2 : dataLt c b = false := by simpa using h2
    rw [O.tr _ _ _ h1 h2]; rfl
  have tot : ∀ a b : PyData, (dataLe false (fun b => b) a b || dataLe false (fun b => b) b a) = true := fun a b => by
    rw [dataLe_false, dataLe_false]
    cases q : dataLt b a with
    | false => rfl
    | true => rw [O.asym _ _ q]; rfl
  refine stb_uniq O ?_ (isort_srtd O ds) ?_
  · refine (List.pairwise_mergeSort tr tot ds).imp fun {a b} h => ?_
    rw [dataLe_false] at h
    simpa using h
  · refine Stb.trans ⟨List.mergeSort_perm _ _, fun x => ?_⟩ ?_ (m := ds)
    · have hp : ((ds.filter (eqv dataLt x)).Pairwise fun a b => dataLe false (fun b => b) a b = true) := by
        have : ∀ (l : List PyData), (∀ a ∈ l, eqv dataLt x a = true) → l.Pairwise fun a b => dataLe false (fun b => b) a b = true := by
          intro l
          induction l with
          | nil => intro _; exact .nil
          | cons a l ih =>
            intro h
            refine List.pairwise_cons.mpr ⟨fun b hb => ?_, ih fun c hc => h c (List.mem_cons_of_mem _ hc)⟩
            obtain ⟨a1, a2⟩ := eqv_iff.mp (h a List.mem_cons_self)
            obtain ⟨b1, b2⟩ := eqv_iff.mp (h b (List.mem_cons_of_mem _ hb))
            rw [dataLe_false, O.tr a x b a1 b2]
            rfl
        exact this _ fun a ha => (List.mem_filter.mp ha).2
      have s1 := List.sublist_mergeSort tr tot hp List.filter_sublist
      have s2 := s1.filter (eqv dataLt x)
      rw [List.filter_filter] at s2
      simp only [Bool.and_self] at s2
      exact (s2.eq_of_length ((List.mergeSort_perm ds _).symm.filter _).length_eq).symm
    · have h := isort_stb O ds
      exact ⟨h.perm.symm, fun x => (h.cls x).symm⟩
/-- sorted(ds) -/
def sortD (ds : List PyData) : Option (List PyData) := if homog ds then some (isort cmpD ds) else none
theorem sortD_ok {ds out : List PyData} (h : sortD ds = some out) : homog ds = true ∧ ds.mergeSort (dataLe false fun b => b) = out := by
  unfold sortD at h
  split at h
  · rename_i hh
    cases h
    refine ⟨hh, ?_⟩
    rw [merge_isort]
    obtain ⟨hal, _, _⟩ := homog_alike hh
    exact isort_congr fun x hx y hy => cmpD_eq x y (hal x hx y hy)
  · cases h
/-! ### a tuple is sorted -/
section
variable {prog : Program} {w : World} {A : Around} {E : Value → Shared → Prop} {s : Shared}
theorem collect_tup {l : Addr} {vs : List Value} {Q : List Value → Shared → Prop} (hl : s.heap.IsTuple l vs.toArray)
    (h : Q vs { s with heap := (s.heap.push (seqObj "list" #[] 0)).update s.heap.objs.size (Obj.mapSeq (· ++ vs.toArray)) }) (hsz : vs.length ≤ sizeLine) :
    wpAny (model prog w) A (collect (.ref l)) Q E s := by
  obtain ⟨o, ho, hc, n, hd⟩ := id hl
  unfold collect
  refine wpAny_bind (wpAny_runValue (codeAny_builtin entry_proto_collect' ?_))
  show wpAny _ _ (do again (.builtin "list.__iadd__" ⟨[← newList [], .ref l], []⟩)) _ _ s
  refine wpAny_bind (wpAny_newList (wpAny_pure ⟨Code.quiet_builtin _ (by decide +kernel), codeAny_builtin entry_list_iadd' ?_⟩))
  show wpAny _ _ (Builtin.List.listExtendWith (.ref s.heap.objs.size) (.ref l) (.ref s.heap.objs.size)) _ _ { s with heap := s.heap.push (seqObj "list" #[] 0) }
  unfold Builtin.List.listExtendWith
  have ho' : (s.heap.push (seqObj "list" #[] 0)).get? l = some o := Heap.get?_push_of_some _ ho
  refine wpAny_bind (wpAny_typeOf (T := "tuple") ⟨o, ho', hc⟩ ?_)
  have ht : (Value.type "tuple" == Value.type "tuple") = true := by rfl
  rw [if_pos (by rw [ht]; simp)]
  refine wpAny_bind (listItems_at ho' hd ?_)
  refine wpAny_bind (listItems_at (xs := #[]) (n := 0) (Heap.get?_push_size _ rfl) rfl ?_)
  rw [if_neg (by simp)]
  refine wpAny_bind (listUpdate_at (xs := #[]) (n := 0) (Heap.get?_push_size _ rfl) rfl ?_ (Nat.zero_le _) (by show (#[] ++ vs.toArray).size ≤ sizeLine + 1; simp only [Array.size_append, List.size_toArray, List.length_nil]; omega))
  refine wpAny_pure ?_
  show wpAny (model prog w) A (do
      let o ← load s.heap.objs.size
      match o.data with
      | .seq xs _ => pure xs.toList
      | _ => unsupported "internal:collect") Q E { s with heap := (s.heap.push (seqObj "list" #[] 0)).update s.heap.objs.size (Obj.mapSeq (· ++ vs.toArray)) }
  refine wpAny_bind (wpAny_load (get?_update_seq (Heap.get?_push_size _ rfl) _) ?_)
  show wpAny _ _ (pure ((#[] : Array Value) ++ vs.toArray).toList) Q E _
  rw [show ((#[] : Array Value) ++ vs.toArray).toList = vs by simp]
  exact wpAny_pure h
theorem sorted_tup {κ : PyProof.Rows.KeyKind} {l : Addr} {vs : List Value} {Q : Value → Shared → Prop} (hl : s.heap.IsTuple l vs.toArray) (S : SortsAt prog w A.in1.in1 { s with heap := sortingHeap (copyHeap s.heap vs) (s.heap.objs.size + 1) vs } κ vs) (hL : vs.length ≤ sizeLine)
    (h : Q (.ref (s.heap.objs.size + 1)) { s with heap := sortedAll s.heap vs (sortVals κ false vs vs).toArray }) : wpAny (model prog w) A (call (.builtin "sorted") [.ref l]) Q E s := by
  refine call_function_entry_kw kind_sorted plain_sorted entry_sorted (args_sorted1 _) ?_
  unfold Builtin.«sorted»
  refine wpAny_bind (m := checkCount "sorted" 1 1 _) (wpAny_pure ?_)
  refine wpAny_bind (collect_tup hl ?_ hL)
  refine wpAny_bind (wpAny_newList ?_ hL)
  have hsz : ((s.heap.push (seqObj "list" #[] 0)).update s.heap.objs.size (Obj.mapSeq (· ++ vs.toArray))).objs.size = s.heap.objs.size + 1 := by
    rw [Heap.size_update, size_push']
  show wpAny _ _ _ _ _ { s with heap := copyHeap s.heap vs }
  rw [hsz]
  refine wpAny_bind (wpAny_holding (wpAny_call_entry_kw slot_list_sort ⟨_, copyHeap_at s.heap vs, rfl⟩ entry_list_sort ?body (args_list_sort _)))
  case body =>
    show wpAny (model prog w) A.in1.in1 (Builtin.«list.sort» ⟨[.ref (s.heap.objs.size + 1)], []⟩) _ _ _
    refine wpAny_mono (list_sort_vals (P := fun f s' => f = .done (.ret .none) ∧ Q (.ref (s.heap.objs.size + 1)) s') (E := fun _ _ => False) (s := { s with heap := copyHeap s.heap vs }) (copyHeap_at s.heap vs) S hL ⟨rfl, h⟩) (fun f s' hf => ?_) fun _ _ e => e.elim
    obtain ⟨rfl, hq⟩ := hf
    exact ⟨_, rfl, wpAny_pure ⟨_, rfl, hq⟩⟩
end
/-! ### as calls -/
theorem each_of {R : V → PyData → Prop} : ∀ {xs : List V} {its : List Value} {ds : List PyData}, Vals xs its → Paired R xs ds → EachIs (fun v d => ∃ x, RelV x v ∧ R x d) its ds
  | [], _, _, .nil, .nil => .nil
  | _ :: _, _, _, .cons r t, .cons q u => .cons ⟨_, r, q⟩ (each_of t u)
theorem of_each {R : V → PyData → Prop} : ∀ {its : List Value} {ds : List PyData}, EachIs (fun v d => ∃ x, RelV x v ∧ R x d) its ds → ∃ xs, Vals xs its ∧ Paired R xs ds
  | _, _, .nil => ⟨[], .nil, .nil⟩
  | _, _, .cons ⟨x, r, q⟩ t => let ⟨xs, h1, h2⟩ := of_each t; ⟨x :: xs, .cons r h1, .cons q h2⟩
theorem readsAll_each' {h : Heap} : ∀ {vs : List Value} {ds : List PyData} {as : List Addr}, ReadsAll h vs ds as → EachIs (fun v d => ∃ as, Reads h v d as) vs ds
  | _, _, _, .nil => .nil
  | _, _, _, .cons h t => .cons ⟨_, h⟩ (readsAll_each' t)
def rSortD (K : PySem.W.Frag) : List V → Hp → VK → Prop := fun vs H Q => ∃ (a : Addr) (xs : List V) (ds out : List PyData) (R : V → PyData → Prop), vs = [.ref a] ∧ (SqL K H a xs ∨ SqT K H a xs) ∧ DpAll K H xs ds ∧ sortD ds = some out ∧ Paired R xs ds ∧
  ∀ p ys, H p = none → Paired R ys out → Q (.ref p) (upd H p (.lst ys))
section
variable {X : Cx}
theorem cr_sortD (c : Cal X) : CallR X (.builtin "sorted") (rSortD X.K) := by
  intro pins s σ H vs us Q I r h
  obtain ⟨a, xs, ds, out, R, rfl, hs, hd, ho, hp, q⟩ := h
  obtain ⟨its, rv, hl, hz⟩ : ∃ its : List Value, Vals xs its ∧ (s.heap.IsList a its.toArray ∨ s.heap.IsTuple a its.toArray) ∧ xs.length ≤ sizeLine := by
    rcases hs with hs | hs
    · obtain ⟨its, rv, hl, hz⟩ := I.list hs
      exact ⟨its, rv, .inl hl.isList, hz⟩
    · obtain ⟨its, rv, hl, hz⟩ := I.tuple hs
      exact ⟨its, rv, .inr hl, hz⟩
  rw [Vals.ref1 r]
  obtain ⟨hh, hm⟩ := sortD_ok ho
  obtain ⟨hal, _, _⟩ := homog_alike hh
  obtain ⟨as, ra⟩ := Dp.readsAll I ds xs its hd rv
  have er : EachIs (fun v d => ∃ as, Reads (sortingHeap (copyHeap s.heap its) (s.heap.objs.size + 1) its) v d as) its ds := (readsAll_each' ra).mono fun _ _ ⟨as, r⟩ => ⟨as, PyProof.Rows.Reads.keeps (fun _ _ => sorting_copy_old) r⟩
  have em : ds.map (fun b => b) = ds := List.map_id' ds
  have S : SortsAt X.prog X.w X.A.in1.in1 { s with heap := sortingHeap (copyHeap s.heap its) (s.heap.objs.size + 1) its } (dataKind (sortingHeap (copyHeap s.heap its) (s.heap.objs.size + 1) its) (ds.map fun b => b)) its := by
    rw [em]
    exact SortsAt_homog (s := { s with heap := sortingHeap (copyHeap s.heap its) (s.heap.objs.size + 1) its }) er hh (by have := c.hu; show X.A.units + 1 + 1 + 9 < cLine; omega)
  have ev := sortVals_data (h' := sortingHeap (copyHeap s.heap its) (s.heap.objs.size + 1) its) (enc := fun b : PyData => b) false (each_of rv hp) er (by rw [em]; exact fun x hx y hy => hal x hx y hy)
  rw [hm] at ev
  obtain ⟨ys, y1, y2⟩ := of_each ev
  have fin : EP X pins σ Q (.ref (s.heap.objs.size + 1)) { s with heap := sortedAll s.heap its (sortVals (dataKind (sortingHeap (copyHeap s.heap its) (s.heap.objs.size + 1) its) (ds.map fun b => b)) false its its).toArray } := by
   obtain ⟨ep, he'⟩ := PyProof.Rows.sortedAll_at s.heap its (sortVals (dataKind (sortingHeap (copyHeap s.heap its) (s.heap.objs.size + 1) its) (ds.map fun b => b)) false its its).toArray
   have hlen : ys.length ≤ sizeLine := by
     have l1 : ys.length = out.length := y2.length
     have l2 : out.length = ds.length := by rw [← hm]; exact List.length_mergeSort ds
     have l3 : xs.length = ds.length := hp.length
     omega
   exact ⟨.ref _, upd H (s.heap.objs.size + 1) (.lst ys), I.laid (t' := s.toks) (fun _ _ => PyProof.Rows.sortedAll_old) (Nat.le_succ _) ⟨hlen, _, ep, y1, he'⟩, rfl, q _ ys (I.hok.fresh (Nat.le_succ _)) y2⟩
  rcases hl with hl | hl
  · exact sorted_vals hl S (by rw [← rv.length]; exact hz) fin
  · exact sorted_tup hl S (by rw [← rv.length]; exact hz) fin
end
end Ev
set_option linter.all false
set_option maxRecDepth 100000
set_option maxHeartbeats 4000000
/-! Ev13: calls that give fresh lists; min, max; isinstance; chains; stores; append. -/
namespace Ev
open PySem PySem.Spec PyProof.Rows L2
theorem R0s.paired {K : PySem.W.Frag} {g : G} {H : Hp} : ∀ {vs : List V} {ds : List PyData}, R0s K g H vs ds → Paired (fun v d => R0 K g H v d) vs ds
  | _, _, .nil => .nil
  | _, _, .cons h t => .cons h (R0s.paired t)
theorem R0s.of_paired {K : PySem.W.Frag} {g : G} {H : Hp} : ∀ {vs : List V} {ds : List PyData}, Paired (fun v d => R0 K g H v d) vs ds → R0s K g H vs ds
  | _, _, .nil => .nil
  | _, _, .cons h t => .cons h (R0s.of_paired t)
def seqOf : PyData → Option (List PyData)
  | .list xs => some xs
  | .tuple xs => some xs
  | _ => none
theorem seqOf_ok {K : PySem.W.Frag} {g : G} {H : Hp} {v : V} {d : PyData} {ds : List PyData} (r : RT K g H v d) (e : seqOf d = some ds) : ∃ a xs, v = .ref a ∧ (SqL K H a xs ∨ SqT K H a xs) ∧ R0s K g H xs ds := by
  unfold seqOf at e
  split at e
  · cases e
    obtain ⟨a, xs, rfl, h, t⟩ := r.list
    exact ⟨a, xs, rfl, .inl (.inl (.inl h)), t⟩
  · cases e
    obtain ⟨a, xs, rfl, h, t⟩ := r.tup
    exact ⟨a, xs, rfl, .inr h, t⟩
  · cases e
section
variable {X : Cx} {a b : Expr} {ma mb : M Wv} {pos p : Pos} {e : Expr} {m : M Wv}
/-- a call of a built-in with one argument that gives a fresh list -/
def mL1 (f : PyData → Option (List PyData)) (m : M Wv) : M (List PyData) := fun ρ S => (m ρ S).bind fun p => (rd p.2 p.1).bind fun d => (f d).map fun o => (o, p.2)
def LD (K : PySem.W.Frag) (r : List V → Hp → VK → Prop) (f : PyData → Option (List PyData)) : Prop := ∀ (g : G) (H : Hp) (S : Sto) (v : V) (d : PyData) (out : List PyData) (Q : VK), RS K g H S → RT K g H v d → f d = some out →
  (∀ p vs, H p = none → R0s K g H vs out → Q (.ref p) (upd H p (.lst vs))) → r [v] H Q
theorem l1_run {K : PySem.W.Frag} {r : List V → Hp → VK → Prop} {f : PyData → Option (List PyData)} (hd : LD K r f) {σ : L2.St} {H : Hp} {Q : VK} (h : tF K (mL1 f m) σ H Q) : tCB r (tCons (tM K m) tNil) σ H Q := by
  obtain ⟨g, S, ρ, ds, S', rs, re, e, fin⟩ := h
  unfold mL1 at e
  simp only [Option.bind_eq_some_iff, Option.map_eq_some_iff] at e
  obtain ⟨⟨w, S1⟩, e1, d, e2, out, e3, e4⟩ := e
  cases e4
  refine ⟨g, S, ρ, w, S1, rs, re, e1, fun g1 H1 x1 rs1 v rv => ?_⟩
  refine hd g1 H1 S1 v d _ Q rs1 (rd_rt rs1 rv e2) e3 fun p vs hp t => ?_
  obtain ⟨r1, np, t1⟩ := fresh_lst rs1 hp t
  exact fin g1 _ p vs (x1.trans (.upd hp)) r1 (x1.noneB hp) np upd_same t1
theorem af_callB {id : String} {x : Str} {r : List V → Hp → VK → Prop} {f : PyData → Option (List PyData)} (h : CallR X (.builtin id) r ∧ LD X.K r f) (hv : bootBuiltins x = some (.builtin id)) (hm : X.mg x = none) (he : AE X e m) (hg : Gl X x := by rfl) (hn : x ≠ "__name__" := by decide) (hdb : (x == ("__debug__" : Str)) = false := by decide)
    (hs : starEach [e] X.env = (false, eval e X.env) :: starEach [] X.env := by rfl) (hpl : (backTo pos (starEach [] X.env)).any (·.1) = false := by rfl) : AF X (.Call (.Name x p) [e] [] pos) (mL1 f m) :=
  PE.imp (pe_callB h.1 hg hm hv (pa_cons he pa_nil hs) hn hdb hs hpl) fun _ _ _ q => l1_run h.2 q
theorem af_callTy {T : String} {x : Str} {r : List V → Hp → VK → Prop} {f : PyData → Option (List PyData)} (h : CallR X (.type T) r ∧ LD X.K r f) (hv : bootBuiltins x = some (.type T)) (hm : X.mg x = none) (he : AE X e m) (hg : Gl X x := by rfl) (hn : x ≠ "__name__" := by decide) (hdb : (x == ("__debug__" : Str)) = false := by decide)
    (hs : starEach [e] X.env = (false, eval e X.env) :: starEach [] X.env := by rfl) (hpl : (backTo pos (starEach [] X.env)).any (·.1) = false := by rfl) : AF X (.Call (.Name x p) [e] [] pos) (mL1 f m) :=
  PE.imp (pe_callTy h.1 hg hm hv (pa_cons he pa_nil hs) hn hdb hs hpl) fun _ _ _ q => l1_run h.2 q
/-- sorted(x) -/
def dSorted (d : PyData) : Option (List PyData) := (seqOf d).bind sortD
theorem l_sorted (c : Cal X) : CallR X (.builtin "sorted") (rSortD X.K) ∧ LD X.K (rSortD X.K) dSorted := by
  refine ⟨cr_sortD c, fun g H S v d out Q rs rv e k => ?_⟩
  unfold dSorted at e
  simp only [Option.bind_eq_some_iff] at e
  obtain ⟨ds, e1, e2⟩ := e
  obtain ⟨a, xs, rfl, h, t⟩ := seqOf_ok rv e1
  exact ⟨a, xs, ds, out, fun v d => R0 X.K g H v d, rfl, h, R0s.dp t, e2, t.paired, fun p ys hp hy => k p ys hp (R0s.of_paired hy)⟩
/-- list(x) -/
def rList (K : PySem.W.Frag) : List V → Hp → VK → Prop := fun xs H Q => ∃ p ys, xs = [.ref p] ∧ (SqL K H p ys ∨ SqT K H p ys) ∧ ∀ l, H l = none → Q (.ref l) (upd H l (.lst ys))
theorem l_list : CallR X (.type "list") (rList X.K) ∧ LD X.K (rList X.K) seqOf := by
  refine ⟨call_list_of, fun g H S v d out Q rs rv e k => ?_⟩
  obtain ⟨a, xs, rfl, h, t⟩ := seqOf_ok rv e
  exact ⟨a, xs, rfl, h, fun l hl => k l xs hl t⟩
/-- list(script) -/
def mListS (m : M Wv) : M (List PyData) := fun ρ S => (m ρ S).bind fun p => match p.1 with
  | .s xs => some (xs, p.2)
  | _ => none
theorem af_listS (hm : X.mg "list" = none) (he : AE X e m) (hg : Gl X "list" := by rfl) (hs : starEach [e] X.env = (false, eval e X.env) :: starEach [] X.env := by rfl) (hpl : (backTo pos (starEach [] X.env)).any (·.1) = false := by rfl) : AF X (.Call (.Name "list" p) [e] [] pos) (mListS m) :=
  PE.imp (pe_callTy (x := "list") call_list_of hg hm (by decide +kernel) (pa_cons he pa_nil hs) (by decide) (by decide) hs hpl) fun σ H Q ⟨g, S, ρ, ds, S', rs, re, e, fin⟩ => by
    unfold mListS at e
    simp only [Option.bind_eq_some_iff] at e
    obtain ⟨⟨w, S1⟩, e1, e2⟩ := e
    split at e2
    · rename_i xs hx
      cases e2
      have hx : w = .s ds := hx
      subst hx
      refine ⟨g, S, ρ, _, _, rs, re, e1, fun g1 H1 x1 rs1 v rv => ?_⟩
      obtain ⟨a, vs, rfl, h, t⟩ := rv
      refine ⟨a, vs, rfl, .inl (h.elim (fun h => .inl h.1) fun h => h H1), fun l hl => ?_⟩
      obtain ⟨r1, np, t1⟩ := fresh_lst rs1 hl t
      exact fin g1 _ l vs (x1.trans (.upd hl)) r1 (x1.noneB hl) np upd_same t1
    · cases e2
/-! ### min, max of a list -/
def foldD (lt : PyData → PyData → Bool) (x : PyData) (xs : List PyData) : PyData := xs.foldl (fun a y => if lt y a then y else a) x
theorem foldD_mem {lt : PyData → PyData → Bool} : ∀ {xs : List PyData} {x : PyData}, foldD lt x xs ∈ x :: xs
  | [], x => List.mem_cons_self
  | y :: ys, x => by
    show foldD lt (if lt y x then y else x) ys ∈ _
    have := foldD_mem (lt := lt) (xs := ys) (x := if lt y x then y else x)
    rcases List.mem_cons.mp this with h | h
    · rw [h]
      split
      · exact List.mem_cons_of_mem _ List.mem_cons_self
      · exact List.mem_cons_self
    · exact List.mem_cons_of_mem _ (List.mem_cons_of_mem _ h)
theorem foldD_congr {f h : PyData → PyData → Bool} {zs : List PyData} (k : ∀ a ∈ zs, ∀ b ∈ zs, f a b = h a b) : ∀ {xs : List PyData} {x : PyData}, x ∈ zs → (∀ y ∈ xs, y ∈ zs) → foldD f x xs = foldD h x xs
  | [], x, _, _ => rfl
  | y :: ys, x, hx, hy => by
    show foldD f (if f y x then y else x) ys = foldD h (if h y x then y else x) ys
    have my := hy y List.mem_cons_self
    rw [k y my x hx]
    refine foldD_congr k ?_ fun z hz => hy z (List.mem_cons_of_mem _ hz)
    split
    · exact my
    · exact hx
def dMinL : FC
  | [.list (x :: xs)] => if homog (x :: xs) then some (foldD cmpD x xs) else none
  | _ => none
def dMaxL : FC
  | [.list (x :: xs)] => if homog (x :: xs) then some (foldD (fun y a => cmpD a y) x xs) else none
  | _ => none
def rBest (K : PySem.W.Frag) (f : PyData → List PyData → PyData) : List V → Hp → VK → Prop := fun vs H Q => ∃ (a : Addr) (xs : List V) (x : PyData) (ds : List PyData), vs = [.ref a] ∧ SqL K H a xs ∧ DpAll K H xs (x :: ds) ∧ homog (x :: ds) = true ∧
  ∀ (i : Nat) (v : V), xs[i]? = some v → (x :: ds)[i]? = some (f x ds) → Q v H
theorem dp_get {K : PySem.W.Frag} {H : Hp} : ∀ {xs : List V} {ds : List PyData} {i : Nat} {u : V}, DpAll K H xs ds → xs[i]? = some u → ∃ d, ds[i]? = some d ∧ Dp K H u d
  | _, _, _, _, .nil, e => by simp at e
  | _, _, 0, _, .cons h _, e => by simp at e; subst e; exact ⟨_, rfl, h⟩
  | _, _, i + 1, _, .cons _ t, e => by
    obtain ⟨d, h1, h2⟩ := dp_get (i := i) t (by simpa using e)
    exact ⟨d, by simpa using h1, h2⟩
theorem vals_get : ∀ {xs : List V} {its : List Value} {i : Nat} {v : Value}, Vals xs its → its[i]? = some v → ∃ u, xs[i]? = some u ∧ RelV u v
  | _, _, _, _, .nil, e => by simp at e
  | _, _, 0, _, .cons h _, e => by simp at e; subst e; exact ⟨_, rfl, h⟩
  | _, _, i + 1, _, .cons _ t, e => by
    obtain ⟨d, h1, h2⟩ := vals_get (i := i) t (by simpa using e)
    exact ⟨d, by simpa using h1, h2⟩
theorem at_same {X : Cx} {H : Hp} {pins : List (Addr × Obj)} {σ : L2.St} {s : Shared} (I : Inv X pins σ H s) {xs : List V} {its : List Value} {ds : List PyData} {h' : Heap} {d' : PyData} {bs : List Addr} {i : Nat} {v : Value} (hd : DpAll X.K H xs ds) (rv : Vals xs its) (ha : ∀ x ∈ ds, ∀ y ∈ ds, PySem.W.alike x y = true)
    (hv : its[i]? = some v) (r : Reads h' v d' bs) (hk : ∀ b o, s.heap.get? b = some o → h'.get? b = some o) (hm : d' ∈ ds) : ∃ u, xs[i]? = some u ∧ RelV u v ∧ ds[i]? = some d' := by
  obtain ⟨u, h1, h2⟩ := vals_get rv hv
  obtain ⟨d, h3, h4⟩ := dp_get hd h1
  obtain ⟨as, r2⟩ := Dp.reads I d u v h4 h2
  have := PySem.W.alike_unique _ _ _ _ _ (ha d (List.mem_of_getElem? h3) d' hm) (PyProof.Rows.Reads.keeps hk r2) r
  subst this
  exact ⟨u, h1, h2, h3⟩
theorem cr_minL (c : Cal X) : CallR X (.builtin "min") (rBest X.K (foldD PySem.W.dataLt)) := by
  intro pins s σ H vs us Q I r h
  obtain ⟨a, xs, x, ds, rfl, hs, hd, hh, q⟩ := h
  obtain ⟨its, rv, hl, hz⟩ := I.list hs
  rw [Vals.ref1 r]
  obtain ⟨hal, hn, hdp⟩ := homog_alike hh
  obtain ⟨as, ra⟩ := Dp.readsAll I _ xs its hd rv
  have hda : PyData.depthAll (x :: ds) ≤ 9 := depthAll_le hdp
  refine PySem.W.min_list_data (I.ok.hd c.calm) hl.isList (by simpa using ra) ⟨hal, hn⟩ (by have := c.hu; omega) fun i v h' tk bs hv hr hk => ?_
  obtain ⟨u, h1, h2, h3⟩ := at_same I hd rv hal (by simpa using hv) hr hk foldD_mem
  exact ⟨u, H, I.kept hk, h2, q i u h1 h3⟩
theorem cr_maxL (c : Cal X) : CallR X (.builtin "max") (rBest X.K (foldD fun y a => PySem.W.dataLt a y)) := by
  intro pins s σ H vs us Q I r h
  obtain ⟨a, xs, x, ds, rfl, hs, hd, hh, q⟩ := h
  obtain ⟨its, rv, hl, hz⟩ := I.list hs
  rw [Vals.ref1 r]
  obtain ⟨hal, hn, hdp⟩ := homog_alike hh
  obtain ⟨as, ra⟩ := Dp.readsAll I _ xs its hd rv
  have hda : PyData.depthAll (x :: ds) ≤ 9 := depthAll_le hdp
  refine PySem.W.max_list_data (I.ok.hd c.calm) hl.isList (by simpa using ra) ⟨hal, hn⟩ (by have := c.hu; omega) fun i v h' tk bs hv hr hk => ?_
  obtain ⟨u, h1, h2, h3⟩ := at_same I hd rv hal (by simpa using hv) hr hk (foldD_mem (lt := fun y a => PySem.W.dataLt a y))
  exact ⟨u, H, I.kept hk, h2, q i u h1 h3⟩
theorem c_minL (c : Cal X) : CallR X (.builtin "min") (rBest X.K (foldD PySem.W.dataLt)) ∧ CD X.K (rBest X.K (foldD PySem.W.dataLt)) dMinL := by
  refine ⟨cr_minL c, fun g H S vs ds dz Q rs rv e k => ?_⟩
  unfold dMinL at e
  split at e
  · rename_i x xs
    split at e
    · rename_i hh
      cases e
      obtain ⟨v, rfl, h⟩ := rts1 rv
      obtain ⟨a, ys, rfl, ha, t⟩ := h.list
      refine ⟨a, ys, x, xs, rfl, .inl (.inl ha), R0s.dp t, hh, fun i u h1 h2 => ?_⟩
      obtain ⟨d, h3, h4⟩ := t.get h1
      rw [h2] at h3
      cases h3
      rw [foldD_congr (zs := x :: xs) (h := cmpD) (fun a ha b hb => cmpD_eq a b ((homog_alike hh).1 a ha b hb)) List.mem_cons_self fun y hy => List.mem_cons_of_mem _ hy] at h4
      exact k _ _ .rfl' h4
    · cases e
  · cases e
theorem c_maxL (c : Cal X) : CallR X (.builtin "max") (rBest X.K (foldD fun y a => PySem.W.dataLt a y)) ∧ CD X.K (rBest X.K (foldD fun y a => PySem.W.dataLt a y)) dMaxL := by
  refine ⟨cr_maxL c, fun g H S vs ds dz Q rs rv e k => ?_⟩
  unfold dMaxL at e
  split at e
  · rename_i x xs
    split at e
    · rename_i hh
      cases e
      obtain ⟨v, rfl, h⟩ := rts1 rv
      obtain ⟨a, ys, rfl, ha, t⟩ := h.list
      refine ⟨a, ys, x, xs, rfl, .inl (.inl ha), R0s.dp t, hh, fun i u h1 h2 => ?_⟩
      obtain ⟨d, h3, h4⟩ := t.get h1
      rw [h2] at h3
      cases h3
      rw [foldD_congr (zs := x :: xs) (h := fun y a => cmpD a y) (fun a ha b hb => cmpD_eq b a ((homog_alike hh).1 b hb a ha)) List.mem_cons_self fun y hy => List.mem_cons_of_mem _ hy] at h4
      exact k _ _ .rfl' h4
    · cases e
  · cases e
end
end Ev
set_option linter.all false
set_option maxRecDepth 100000
set_option maxHeartbeats 4000000
/-! Ev14: set(xs) of a list of ints (the hand layer has it for a tuple: call_set_tupI; the same steps, a list walked); sorted(set(x)). -/
namespace Ev
open PySem PySem.Spec PyProof.Rows L2
section
variable {P : Program} {w : World} {A : Around} {E : Value → Shared → Prop} {s : Shared}
theorem call_set_lstI {l : Addr} {items : Array Value} (ns : List Int) {Q : Value → Shared → Prop} (hh : A.handled = none) (hl : s.heap.IsList l items) (hit : IntsAre items.toList ns) (hb : ns.length + 1 < scanBound)
    (h : ∀ (h' : Heap) (tk c : Nat), SetR w h' s.heap.objs.size (fun j => decide (j ∈ ns)) c → c ≤ ns.length → (∀ b o, s.heap.get? b = some o → h'.get? b = some o) → Q (.ref s.heap.objs.size) { s with heap := h', toks := tk }) :
    wpAny (model P w) A (call (.type "set") [.ref l]) Q E s := by
  have hisz : items.size = ns.length := by
    have q := IntsAre.length hit
    rw [Array.length_toList] at q
    exact q
  obtain ⟨c, tl, hmro⟩ := F.called_set.mro
  have hmade := F.called_set.made
  have hsub := F.called_set.sub
  refine wpAny_call (codeAny_of_tree ?_)
  show wpAny _ _ (callAny (.type "set") _) _ _ _
  refine wpAny_pure ⟨Code.quiet_builtin _ (by decide +kernel), codeAny_builtin F.entry_type_call ?_⟩
  rw [Around.under_plain (weight_type_call_type "set" [.ref l] []) rfl]
  have h1 := F.called_set.notType
  have h2 := F.called_set.canCreate
  have hct := F.typeCall_set_1 (.ref l)
  repeat (any_goals (first | assumption | wp_step))
  refine codeAny_mono (code_set_led1 (.ref l) (E := E) (Q₁ := fun obj s₁ => obj = .ref s.heap.objs.size ∧ s₁ = { s with heap := s.heap.push { cls := .type "set", dict := none, data := .set #[] 0 (.fresh 0 0 (!w.params.followText "set-order")) } }) ⟨rfl, rfl⟩) fun r s₁ hr => ?_
  cases r with
  | error e => exact hr
  | ok fl =>
    cases fl with
    | ret obj =>
      obtain ⟨rfl, rfl⟩ := hr
      have hS : (s.heap.push { cls := .type "set", dict := none, data := .set #[] 0 (.fresh 0 0 (!w.params.followText "set-order")) }).get? s.heap.objs.size = some { cls := .type "set", dict := none, data := .set #[] 0 (.fresh 0 0 (!w.params.followText "set-order")) } := Heap.get?_push_size _ rfl
      have hT : Shared.TypeIs { s with heap := s.heap.push { cls := .type "set", dict := none, data := .set #[] 0 (.fresh 0 0 (!w.params.followText "set-order")) } } (.ref s.heap.objs.size) "set" := ⟨_, hS, rfl⟩
      have hli := F.called_set.init.lookup
      have hbi := F.called_set.init.bind (.ref s.heap.objs.size)
      repeat (any_goals (first | assumption | wp_step))
      refine codeAny_mono (codeAny_call_builtin (R := wants (fun r s₂ => r = .none ∧ ∃ h' tk c, s₂ = { s with heap := h', toks := tk } ∧ SetR w h' s.heap.objs.size (fun j => decide (j ∈ ns)) c ∧ c ≤ ns.length ∧
          (∀ b o, s.heap.get? b = some o → h'.get? b = some o)) E) F.called_set.init.plain F.entry_set_init (check_set_init_1 hT ?_)) fun r₂ s₂ hr₂ => ?_
      · obtain ⟨ol, hol, hcl, nl, hdl⟩ := hl
        obtain ⟨ocls, odict, odata, oslots⟩ := ol
        simp only at hcl hdl
        subst hcl; subst hdl
        have hol' : (s.heap.push { cls := .type "set", dict := none, data := .set #[] 0 (.fresh 0 0 (!w.params.followText "set-order")) }).get? l = some { cls := .type "list", dict := odict, data := .seq items nl, slots := oslots } := Heap.get?_push_of_some _ hol
        have hsls := F.sub_list_set
        have hslf := F.sub_list_frozenset
        have hne : (Value.type "list" == Value.type "dict") = false := by decide
        have hl1 : (s.heap.push { cls := .type "set", dict := none, data := .set #[] 0 (.fresh 0 0 (!w.params.followText "set-order")) }).IsList l items := ⟨_, hol', rfl, nl, rfl⟩
        unfold Builtin.«set.__init__» noKeywords Builtin.Frozenset.updateFrom
        generalize hPI : pyIter = PI
        wp_walk
        subst hPI
        refine wpAny_pyIter_list hl1 ?_
        refine wpAny_bind (wpAny_runValue ?_)
        have hlS : l < s.heap.objs.size := Heap.lt_size hol
        have hh3 : A.in1.in1.in1.handled = none := by simp [hh]
        have hz1 : (s.heap.push { cls := .type "set", dict := none, data := .set #[] 0 (.fresh 0 0 (!w.params.followText "set-order")) }).objs.size = s.heap.objs.size + 1 := Heap.size_push ..
        have hneI : l ≠ (s.heap.push { cls := .type "set", dict := none, data := .set #[] 0 (.fresh 0 0 (!w.params.followText "set-order")) }).objs.size := by
          rw [Heap.size_push]; exact Nat.ne_of_lt (Nat.lt_succ_of_lt hlS)
        have hSf : s.heap.objs.size ∉ [(s.heap.push { cls := .type "set", dict := none, data := .set #[] 0 (.fresh 0 0 (!w.params.followText "set-order")) }).objs.size, l] := by
          rw [Heap.size_push]; simp only [List.mem_cons, List.mem_singleton, List.not_mem_nil, or_false, not_or]
          exact ⟨Nat.ne_of_lt (Nat.lt_succ_self _), Nat.ne_of_gt hlS⟩
        have hval : ∀ (i : Nat) (v : Value), items[i]? = some v → ∃ k t, ns[i]? = some k ∧ v = .int k t := fun i v hv => by
          have hi : i < ns.length := by rw [← hisz]; exact (Array.getElem?_eq_some_iff.mp hv).1
          obtain ⟨t, e⟩ := PyProof.Rows.IntsAre.int_at hit i v (by rw [Array.getElem?_toList]; exact hv)
          refine ⟨ns[i], t, List.getElem?_eq_getElem hi, ?_⟩
          rw [e, List.getD_eq_getElem?_getD, List.getElem?_eq_getElem hi] <;> rfl
        refine set_update_ints ((Walks.list hh3 _ l hneI items).toS) s.heap.objs.size
          hSf ns hisz hb hval (items.size - 0) 0 _ (by omega) (Nat.zero_le _)
          ⟨⟨_, Heap.get?_push_size _ rfl, rfl, rfl⟩, (hl1.push _)⟩ ?hS0 ?hR
        case hS0 =>
          have hget : ((s.heap.push { cls := .type "set", dict := none, data := .set #[] 0 (.fresh 0 0 (!w.params.followText "set-order")) }).push { cls := .type "list_iterator", data := .fields #[.ref l, .int 0 0] }).get? s.heap.objs.size
              = some { cls := .type "set", dict := none, data := .set #[] 0 (.fresh 0 0 (!w.params.followText "set-order")) } := Heap.get?_push_of_some _ hS
          exact ⟨0, Nat.le_refl 0, setR_new_at hget⟩
        case hR =>
          intro s' c' hm hc' hS'
          obtain ⟨h', g2, d', tk', os'⟩ := s'
          have eg : g2 = s.gens := hm.gens
          have ed : d' = s.drawn := hm.drawn
          have eo : os' = s.os := hm.os
          subst eg; subst ed; subst eo
          show wpAny _ _ _ _ _ _
          refine wpAny_pure ?_
          show wpAny _ _ (ret Value.none) _ _ _
          rw [hisz] at hc'
          refine wpAny_pure ⟨rfl, h', tk', c', rfl, hS', hc', fun b o e => ?_⟩
          have hb0 : b < s.heap.objs.size := Heap.lt_size e
          have hb1 : b ≠ s.heap.objs.size := Nat.ne_of_lt hb0
          have hb2 : b ≠ (s.heap.push { cls := .type "set", dict := none, data := .set #[] 0 (.fresh 0 0 (!w.params.followText "set-order")) }).objs.size := by
            rw [Heap.size_push]; exact Nat.ne_of_lt (Nat.lt_succ_of_lt hb0)
          exact hm.heap b o (by simp only [List.mem_cons, List.mem_singleton, List.not_mem_nil, or_false, not_or]; exact ⟨hb1, hb2⟩) (Heap.get?_push_of_some _ (Heap.get?_push_of_some _ e))
      · cases r₂ with
        | error e => exact hr₂
        | ok fl₂ =>
          cases fl₂ with
          | ret r =>
            obtain ⟨rfl, h', tk, c', rfl, hS', hc', hk'⟩ := hr₂
            repeat (any_goals (first | assumption | wp_step))
            exact h _ _ _ hS' hc' hk'
          | _ => exact hr₂.elim
    | _ => exact hr.elim
end
end Ev
set_option linter.all false
set_option maxRecDepth 100000
set_option maxHeartbeats 4000000
/-! Ev15: t[::-1]; sorted(set(x)); isinstance; chains; count; tuple(range); append; xs[i] = v. -/
namespace Ev
open PySem PySem.Spec PyProof.Rows L2 HT
/-! ### a tuple, from behind -/
section
variable {prog : Program} {w : World} {A : Around} {E : Value → Shared → Prop} {s : Shared}
theorem sliceApplied_rev {sl : Addr} {vs : Value} {n : Nat} {Q : Int × Int × Nat → Shared → Prop} (hs : s.heap.IsSliceOf sl .none .none vs) (ps : IsPart vs (some (-1)))
    (h : Q ((n : Int) - 1, -1, n) s) : wpAny (model prog w) A (Builtin.Slice.sliceApplied (.ref sl) (pure (n : Int))) Q E s := by
  obtain ⟨os, hos, hcs, hds⟩ := id hs
  unfold Builtin.Slice.sliceApplied Builtin.Slice.sliceFields
  refine wpAny_bind (wpAny_bind (wpAny_field hos hds (x := .none) rfl (wpAny_bind (wpAny_field hos hds (x := .none) rfl (wpAny_bind (wpAny_field hos hds (x := vs) rfl (wpAny_pure ?_)))))))
  refine wpAny_bind (slicePart_ ps ?_)
  show wpAny _ _ (if ((-1 : Int) == 0) = true then _ else _) _ _ s
  rw [if_neg (by decide)]
  refine wpAny_bind (slicePart_ .none (wpAny_bind (slicePart_ .none (wpAny_bind (wpAny_pure ?_)))))
  show wpAny _ _ (pure ((n : Int) - 1, (-1 : Int), Builtin.Slice.slicePlaces ((n : Int) - 1) (-1) (-1))) _ _ s
  have e : Builtin.Slice.slicePlaces ((n : Int) - 1) (-1) (-1) = n := by
    unfold Builtin.Slice.slicePlaces
    have h1 : ¬ ((-1 : Int) > 0) := by decide
    simp only [h1, if_false]
    split
    · rw [show (- -1 : Int) = 1 by decide, Int.ediv_one]; omega
    · omega
  rw [e]
  exact wpAny_pure h
theorem fm_congr {α β : Type} {f g : α → Option β} : ∀ {l : List α}, (∀ x ∈ l, f x = g x) → l.filterMap f = l.filterMap g
  | [], _ => rfl
  | x :: l, h => by rw [List.filterMap_cons, List.filterMap_cons, h x List.mem_cons_self, fm_congr fun y hy => h y (List.mem_cons_of_mem _ hy)]
theorem pick_rev (xs : Array Value) : ((List.range xs.size).filterMap fun (m : Nat) => xs[((xs.size : Int) - 1 + (m : Int) * (-1)).toNat]?).toArray = xs.toList.reverse.toArray := by
  have e : (List.range xs.size).filterMap (fun (m : Nat) => xs[((xs.size : Int) - 1 + (m : Int) * (-1)).toNat]?) = ((List.range xs.size).map fun k => xs.size - 1 - k).filterMap (xs[·]?) := by
    rw [List.filterMap_map]
    refine fm_congr fun m hm => ?_
    have := List.mem_range.mp hm
    show xs[_]? = xs[xs.size - 1 - m]?
    congr 1
    omega
  rw [e, PySem.W.krv_range, List.filterMap_reverse, PySem.W.krv_all]
theorem getItem_tuple_rev {t sl : Addr} {items : Array Value} {vs : Value} {Q : Value → Shared → Prop} (ht : IsTup s.heap t items) (hs : s.heap.IsSliceOf sl .none .none vs) (ps : IsPart vs (some (-1)))
    (h : Q (.ref s.heap.objs.size) { s with heap := s.heap.push { cls := .type "tuple", data := .seq items.toList.reverse.toArray } })
    (hsz : items.size ≤ sizeLine) : wpAny (model prog w) A (getItem (.ref t) (.ref sl)) Q E s := by
  have htake : sizeOk (.seq items.toList.reverse.toArray) := by
    show items.toList.reverse.toArray.size ≤ sizeLine
    rw [List.size_toArray, List.length_reverse, Array.length_toList]
    exact hsz
  obtain ⟨os, hos, hcs, hds⟩ := id hs
  have hTs : s.TypeIs (.ref sl) "slice" := ⟨os, hos, hcs⟩
  unfold getItem
  try with_reducible refine wpAny_holding ?_
  first | refine wpAny_bind (wpAny_pure ?_) | skip
  refine wpAny_bind (wpAny_sequenceKey ht.typeIs (by decide) ?_)
  refine wpAny_bind (wpAny_callSpecial?_slot (name := Str.ofString "__getitem__") ht.typeIs PyProof.Rows.slot_tuple_getitem
    (wpAny_call_entry PyProof.Rows.slot_tuple_getitem ht.typeIs entry_tuple_getitem ?_ (args_tuple_getitem _ _)))
  show wpAny _ _ (Builtin.Tuple.tupleItemsOf (.ref t) >>= _) _ _ s
  refine wpAny_bind (tupleItemsOf_ ht ?_)
  refine wpAny_bind (wpAny_typeOf hTs ?_)
  rw [if_pos (by decide)]
  refine wpAny_bind (sliceApplied_rev hs ps ?_)
  have hno : ¬ ((((items.size : Int) - 1) == 0 && (-1 : Int) == 1 && items.size == items.size) = true) := by
    intro q
    rw [Bool.and_eq_true, Bool.and_eq_true] at q
    exact absurd q.1.2 (by decide)
  show wpAny _ _ (if (((items.size : Int) - 1) == 0 && (-1 : Int) == 1 && items.size == items.size) = true then _ else _) _ _ s
  rw [if_neg hno, pick_rev]
  first
    | exact wpAny_bind (m := Builtin.Tuple.tupleExact _) (wpAny_newObj_type (wpAny_pure ⟨_, rfl, wpAny_pure h⟩) htake)
    | exact wpAny_bind (m := Builtin.Tuple.tupleExact _) (wpAny_newObj_type (wpAny_bind (wpAny_pure (wpAny_pure ⟨_, rfl, wpAny_pure h⟩))) htake)
    | exact wpAny_bind (wpAny_bind (m := Builtin.Tuple.tupleExact _) (wpAny_newObj_type (wpAny_pure (wpAny_pure ⟨_, rfl, wpAny_pure h⟩)) htake))
    | exact wpAny_bind (wpAny_bind (m := Builtin.Tuple.tupleExact _) (wpAny_newObj_type (wpAny_pure ⟨_, rfl, wpAny_pure h⟩) htake))
end
section
variable {X : Cx}
def tRevT (K : PySem.W.Frag) (te : TE) : TE := fun σ H Q => te σ H fun x H1 => ∃ a xs, x = .ref a ∧ ((SqL K H1 a xs ∧ ∀ p, H1 p = none → Q (.ref p) (upd H1 p (.lst xs.reverse))) ∨ (SqT K H1 a xs ∧ ∀ p, H1 p = none → Q (.ref p) (upd H1 p (.tup xs.reverse))))
theorem pe_revT {e : Expr} {te : TE} {k : Nat} {p1 p2 p3 pos : Pos} (he : PE X e te) : PE X (.Subscript e (.Slice none none (some (.UnaryOp .USub (.Constant (.int 1) k p1) p2)) p3) pos) (tRevT X.K te) := by
  refine ⟨fun pins s σ H Q I h => ?_⟩
  refine Subscript_ (thn (he.run pins s σ H _ I h) fun v s1 ⟨x, H1, I1, r1, q1⟩ => ?_)
  obtain ⟨a, xs, ex, hq⟩ := q1
  subst ex
  cases r1
  have hst : PO X (some (.UnaryOp .USub (.Constant (.int 1) k p1) p2)) (tPart (tUn (rU fun i => .int (-i)) (tC (.int 1)))) := po_some (pe_un un_neg pe_int)
  refine wpAny_Slice (thn (po_none.run pins s1 σ H1 (fun o H2 => o = none ∧ H2 = H1) I1 ⟨rfl, rfl⟩) fun vl s2 ⟨l, H2, I2, pl, el, e2⟩ => ?_)
  subst el e2
  refine thn (po_none.run pins s2 σ H2 (fun o H3 => o = none ∧ H3 = H2) I2 ⟨rfl, rfl⟩) fun vu s3 ⟨u, H3, I3, pu, eu, e3⟩ => ?_
  subst eu e3
  refine thn (hst.run pins s3 σ H3 (fun o H4 => o = some (-1) ∧ H4 = H3) I3 ⟨1, rfl, -1, rfl, rfl, rfl⟩) fun vs s4 ⟨o, H4, I4, ps, eo, e4⟩ => ?_
  subst eo e4
  have I5 : Inv X pins σ H4 { s4 with heap := s4.heap.push { cls := .type "slice", data := .fields #[vl, vu, vs] } } := I4.kept (t' := s4.toks) fun b ob q => Heap.get?_push_of_some _ q
  show wpAny (model X.prog X.w) X.A (subscriptTail e (.Slice none none (some (.UnaryOp .USub (.Constant (.int 1) k p1) p2)) p3) (.ref a) (.ref s4.heap.objs.size)) (EP X pins σ Q) X.xe { s4 with heap := s4.heap.push { cls := .type "slice", data := .fields #[vl, vu, vs] } }
  rcases hq with ⟨hx, q⟩ | ⟨hx, q⟩
  · obtain ⟨its, r, ht, hz⟩ := I5.list hx
    have hlen := r.length
    refine tail_any (ops := [.ref a, .ref s4.heap.objs.size]) ht.isList.typeIs (PySem.slot_list_getitem.lookup) ?_ (by with_unfolding_all rfl)
    refine wpAny_getItem_list_slice ht.isList (Heap.IsSliceOf.new _ vl vu vs) pl pu ps (by decide) ?_ (by rw [List.size_toArray]; omega)
    rw [PySem.W.krv_pick]
    refine ⟨.ref _, _, I5.laid (t' := s4.toks) (o := .lst xs.reverse) (fun b ob q => Heap.get?_push_of_some _ q) (Nat.le_refl _) ?_, rfl, q _ (I5.hok.fresh (Nat.le_refl _))⟩
    exact ⟨by rw [List.length_reverse]; exact hz, _, 0, r.reverse, Heap.get?_push_size _ rfl⟩
  · obtain ⟨its, r, ht, hz⟩ := I5.tuple hx
    have hlen := r.length
    cases pl
    cases pu
    refine tail_any (ops := [.ref a, .ref s4.heap.objs.size]) ht.typeIs (PyProof.Rows.slot_tuple_getitem.lookup) ?_ (by with_unfolding_all rfl)
    refine getItem_tuple_rev ht (Heap.IsSliceOf.new _ .none .none vs) ps ?_ (by rw [List.size_toArray]; omega)
    refine ⟨.ref _, _, I5.laid (t' := s4.toks) (o := .tup xs.reverse) (fun b ob q => Heap.get?_push_of_some _ q) (Nat.le_refl _) ?_, rfl, q _ (I5.hok.fresh (Nat.le_refl _))⟩
    exact ⟨by rw [List.length_reverse]; exact hz, _, r.reverse, ⟨_, Heap.get?_push_size _ rfl, rfl, _, rfl⟩⟩
/-- x[::-1] -/
def mRev (m : M Wv) : M Wv := fun ρ S => (m ρ S).bind fun p => (rd p.2 p.1).bind fun d => match d with
  | .list xs => some (.d (.list xs.reverse), p.2)
  | .tuple xs => some (.d (.tuple xs.reverse), p.2)
  | _ => none
theorem ae_rev {e : Expr} {m : M Wv} {k : Nat} {p1 p2 p3 pos : Pos} (he : AE X e m) : AE X (.Subscript e (.Slice none none (some (.UnaryOp .USub (.Constant (.int 1) k p1) p2)) p3) pos) (mRev m) :=
  (pe_revT he).imp fun σ H Q ⟨g, S, ρ, w, S', rs, re, e, fin⟩ => by
    unfold mRev at e
    simp only [Option.bind_eq_some_iff] at e
    obtain ⟨⟨x, S1⟩, e1, d, e2, e3⟩ := e
    refine ⟨g, S, ρ, x, S1, rs, re, e1, fun g1 H1 x1 rs1 v rv => ?_⟩
    have rt := rd_rt rs1 rv e2
    split at e3
    · cases e3
      obtain ⟨a, xs, rfl, h, t⟩ := rt.list
      exact ⟨a, xs, rfl, .inl ⟨.inl (.inl h), fun p hp => fin g1 _ (x1.trans (.upd hp)) (rs1.grown (.inr ⟨p, _, hp, rfl⟩)) _ (R0.newL rs1 hp t.reverse)⟩⟩
    · cases e3
      obtain ⟨a, xs, rfl, h, t⟩ := rt.tup
      exact ⟨a, xs, rfl, .inr ⟨h, fun p hp => fin g1 _ (x1.trans (.upd hp)) (rs1.grown (.inr ⟨p, _, hp, rfl⟩)) _ (R0.newT hp t.reverse)⟩⟩
    · cases e3
end
end Ev
set_option linter.all false
set_option maxRecDepth 100000
set_option maxHeartbeats 4000000
/-! Ev16: sorted(set(x)); isinstance; chains; count; tuple(range). -/
namespace Ev
open PySem PySem.Spec PyProof.Rows L2
/-! ### sorted(set(x)) -/
def insU (x : Int) : List Int → List Int
  | [] => [x]
  | y :: ys => if ilt x y then x :: y :: ys else if ilt y x then y :: insU x ys else y :: ys
def sdist : List Int → List Int
  | [] => []
  | x :: xs => insU x (sdist xs)
theorem insU_mem {x k : Int} : ∀ {ys : List Int}, k ∈ insU x ys ↔ k = x ∨ k ∈ ys
  | [] => by simp [insU]
  | y :: ys => by
    unfold insU
    split
    · simp
    · split
      · rw [List.mem_cons, insU_mem, List.mem_cons]
        constructor
        · rintro (h | h | h)
          · exact .inr (.inl h)
          · exact .inl h
          · exact .inr (.inr h)
        · rintro (h | h | h)
          · exact .inr (.inl h)
          · exact .inl h
          · exact .inr (.inr h)
      · rename_i h1 h2
        rw [ilt_eq] at h1 h2
        simp at h1 h2
        have : x = y := by omega
        subst this
        simp
theorem sdist_mem {k : Int} : ∀ {xs : List Int}, k ∈ sdist xs ↔ k ∈ xs
  | [] => by simp [sdist]
  | x :: xs => by unfold sdist; rw [insU_mem, sdist_mem, List.mem_cons]
theorem insU_srt {x : Int} : ∀ {ys : List Int}, ys.Pairwise (· < ·) → (insU x ys).Pairwise (· < ·)
  | [], _ => List.pairwise_singleton _ _
  | y :: ys, h => by
    have h1 := List.pairwise_cons.mp h
    unfold insU
    split
    · rename_i hl
      rw [ilt_eq] at hl
      have hl : x < y := by simpa using hl
      refine List.pairwise_cons.mpr ⟨fun z hz => ?_, h⟩
      rcases List.mem_cons.mp hz with rfl | hz
      · exact hl
      · exact Int.lt_trans hl (h1.1 z hz)
    · split
      · rename_i hl
        rw [ilt_eq] at hl
        have hl : y < x := by simpa using hl
        refine List.pairwise_cons.mpr ⟨fun z hz => ?_, insU_srt h1.2⟩
        rcases insU_mem.mp hz with rfl | hz
        · exact hl
        · exact h1.1 z hz
      · exact h
theorem sdist_srt : ∀ xs : List Int, (sdist xs).Pairwise (· < ·)
  | [] => .nil
  | x :: xs => insU_srt (sdist_srt xs)
theorem srt_uniq : ∀ {l m : List Int}, l.Pairwise (· < ·) → m.Pairwise (· < ·) → (∀ k, k ∈ l ↔ k ∈ m) → l = m
  | [], [], _, _, _ => rfl
  | [], y :: m, _, _, h => absurd ((h y).mpr List.mem_cons_self) (by simp)
  | x :: l, [], _, _, h => absurd ((h x).mp List.mem_cons_self) (by simp)
  | x :: l, y :: m, hl, hm, h => by
    have l1 := List.pairwise_cons.mp hl
    have m1 := List.pairwise_cons.mp hm
    have e : x = y := by
      rcases List.mem_cons.mp ((h x).mp List.mem_cons_self) with e | hx
      · exact e
      · rcases List.mem_cons.mp ((h y).mpr List.mem_cons_self) with e | hy
        · exact e.symm
        · have a := m1.1 x hx
          have b := l1.1 y hy
          omega
    subst e
    congr 1
    refine srt_uniq l1.2 m1.2 fun k => ⟨fun hk => ?_, fun hk => ?_⟩
    · rcases List.mem_cons.mp ((h k).mp (List.mem_cons_of_mem _ hk)) with e | z
      · have := l1.1 k hk
        omega
      · exact z
    · rcases List.mem_cons.mp ((h k).mpr (List.mem_cons_of_mem _ hk)) with e | z
      · have := m1.1 k hk
        omega
      · exact z
def rSetI (K : PySem.W.Frag) (w : World) : List V → Hp → VK → Prop := fun xs H Q => ∃ (l : Addr) (ns : List Int), xs = [.ref l] ∧ (SqL K H l (ns.map V.int) ∨ SqT K H l (ns.map V.int)) ∧ ns.length < 60 ∧
  ∀ (p : Addr) (c : Nat), H p = none → c ≤ ns.length → Q (.ref p) (upd H p (SetO w p (fun j => decide (j ∈ ns)) c))
section
variable {X : Cx}
theorem cr_setI (c : Cal X) : CallR X (.type "set") (rSetI X.K X.w) := by
  intro pins s σ H xs us Q I r h
  obtain ⟨l, ns, rfl, hl, hn, q⟩ := h
  rw [Vals.ref1 r]
  have hf : H s.heap.objs.size = none := I.hok.fresh (Nat.le_refl _)
  have hb : ns.length + 1 < scanBound := by unfold scanBound; omega
  rcases hl with hl | hl
  · obtain ⟨its, rv, pl, hz⟩ := I.list hl
    exact call_set_lstI ns (I.ok.hd c.calm) pl.isList (by simpa using rv.ints) hb fun h' tk c' R hc k => ⟨.ref s.heap.objs.size, upd H s.heap.objs.size (SetO X.w s.heap.objs.size (fun j => decide (j ∈ ns)) c'), I.laid (t' := tk) k (Nat.le_refl _) (setO_new R), rfl, q _ _ hf hc⟩
  · obtain ⟨its, rv, pl, hz⟩ := I.tuple hl
    exact call_set_tupI ns (I.ok.hd c.calm) pl (by simpa using rv.ints) hb fun h' tk c' R hc k => ⟨.ref s.heap.objs.size, upd H s.heap.objs.size (SetO X.w s.heap.objs.size (fun j => decide (j ∈ ns)) c'), I.laid (t' := tk) k (Nat.le_refl _) (setO_new R), rfl, q _ _ hf hc⟩
def dSortSet (d : PyData) : Option (List PyData) := (seqOf d).bind fun xs => (intsD xs).bind fun ns => if Nat.blt ns.length 60 then some ((sdist ns).map PyData.int) else none
theorem af_sortSet {e : Expr} {m : M Wv} {p p2 pos pos2 : Pos} (c : Cal X) (hm : X.mg "sorted" = none) (hm2 : X.mg "set" = none) (he : AE X e m) (hg : Gl X "sorted" := by rfl) (hg2 : Gl X "set" := by rfl)
    (hs : starEach [e] X.env = (false, eval e X.env) :: starEach [] X.env := by rfl) (hpl : (backTo pos2 (starEach [] X.env)).any (·.1) = false := by rfl)
    (hs2 : starEach [.Call (.Name "set" p2) [e] [] pos2] X.env = (false, eval (.Call (.Name "set" p2) [e] [] pos2) X.env) :: starEach [] X.env := by rfl) (hpl2 : (backTo pos (starEach [] X.env)).any (·.1) = false := by rfl) :
    AF X (.Call (.Name "sorted" p) [.Call (.Name "set" p2) [e] [] pos2] [] pos) (mL1 dSortSet m) :=
  PE.imp (pe_callB (cr_sortedSet c.calm) hg hm (by decide +kernel) (pa_cons (pe_callTy (cr_setI c) hg2 hm2 (by decide +kernel) (pa_cons he pa_nil hs) (by decide) (by decide) hs hpl) pa_nil hs2) (by decide) (by decide) hs2 hpl2) fun σ H Q ⟨g, S, ρ, ds, S', rs, re, e, fin⟩ => by
    unfold mL1 at e
    simp only [Option.bind_eq_some_iff, Option.map_eq_some_iff] at e
    obtain ⟨⟨w, S1⟩, e1, d, e2, out, e3, e4⟩ := e
    cases e4
    unfold dSortSet at e3
    simp only [Option.bind_eq_some_iff] at e3
    obtain ⟨xs, e5, ns, e6, e7⟩ := e3
    split at e7
    · rename_i hn
      have hn := Nat.blt_eq.mp hn
      cases e7
      refine ⟨g, S, ρ, w, S1, rs, re, e1, fun g1 H1 x1 rs1 v rv => ?_⟩
      obtain ⟨a, vs, rfl, h, t⟩ := seqOf_ok (rd_rt rs1 rv e2) e5
      rw [intsD_ok e6] at t
      cases t.int_inv
      refine ⟨a, ns, rfl, h, hn, fun q c' hq hc => ?_⟩
      have hq' : Grown H1 (upd H1 q (SetO X.w q (fun j => decide (j ∈ ns)) c')) := .inr ⟨q, _, hq, rfl⟩
      have rs2 := rs1.grown hq'
      refine ⟨q, _, c', rfl, upd_same, by omega, fun ns' p hs' hm' hl' hp => ?_⟩
      have en : ns' = sdist ns := srt_uniq hs' (sdist_srt ns) fun k => by rw [hm', sdist_mem]; exact decide_eq_true_iff
      subst en
      have x2 : Ext g1 H1 g1 (upd H1 q (SetO X.w q (fun j => decide (j ∈ ns)) c')) := hq'.ext
      obtain ⟨r1, np, t1⟩ := fresh_lst rs2 hp (R0s.ints (K := X.K) (g := g1) (sdist ns))
      exact fin g1 _ p _ (x1.trans (x2.trans (.upd hp))) r1 (x1.noneB (x2.noneB hp)) np upd_same t1
    · cases e7
/-! ### isinstance -/
def IsaT (T : String) (f : PyData → Bool) : Prop := ∀ {prog : Program} {w : World} {A : Around} {E : Value → Shared → Prop} {s : Shared} {v : Value} {d : PyData} {as : List Addr} {Q : Value → Shared → Prop}, Reads s.heap v d as →
  (∀ tk, s.toks ≤ tk → Q (.bool (f d)) { s with toks := tk }) → wpAny (model prog w) A (call (.builtin "isinstance") [v, .type T]) Q E s
theorem isa_int : IsaT "int" PyData.isInt := fun r h => PySem.W.isinstance_int_data r h
theorem isa_bool : IsaT "bool" PyData.isBool := fun r h => PySem.W.isinstance_bool_data r h
theorem isa_str : IsaT "str" PyData.isStr := fun r h => PySem.W.isinstance_str_data r h
theorem isa_tuple : IsaT "tuple" PyData.isTuple := fun r h => PySem.W.isinstance_tuple_data r h
theorem isa_list : IsaT "list" PyData.isList := fun r h => PySem.W.isinstance_list_data r h
theorem isa_dict : IsaT "dict" PyData.isDict := fun r h => PySem.W.isinstance_dict_data r h
def rIsaD (K : PySem.W.Frag) (T : String) (f : PyData → Bool) : List V → Hp → VK → Prop := fun vs H Q => ∃ x d, vs = [x, .ty T] ∧ Dp K H x d ∧ Q (.bl (f d)) H
theorem cr_isa {T : String} {f : PyData → Bool} (h : IsaT T f) : CallR X (.builtin "isinstance") (rIsaD X.K T f) := by
  intro pins s σ H vs us Q I r q
  obtain ⟨x, d, rfl, hd, q⟩ := q
  cases r with
  | cons r1 r =>
    cases r with
    | cons r2 r =>
      cases r
      cases r2
      obtain ⟨as, ra⟩ := Dp.reads I d x _ hd r1
      exact h ra fun tk _ => ⟨.bl (f d), H, I.tok _, rfl, q⟩
def mIsa (f : PyData → Bool) (m : M Wv) : M Wv := fun ρ S => (m ρ S).bind fun p => (rd p.2 p.1).map fun d => (.d (.bool (f d)), p.2)
theorem ae_isa {T : String} {x : Str} {f : PyData → Bool} {e : Expr} {m : M Wv} {p p2 pos : Pos} (h : IsaT T f) (hv : bootBuiltins x = some (.type T)) (hm : X.mg "isinstance" = none) (hmT : X.mg x = none) (he : AE X e m) (hg : Gl X "isinstance" := by rfl) (hgT : Gl X x := by rfl) (hn : x ≠ "__name__" := by decide) (hdb : (x == ("__debug__" : Str)) = false := by decide)
    (hs : starEach [e, .Name x p2] X.env = (false, eval e X.env) :: starEach [.Name x p2] X.env := by rfl) (hs2 : starEach [.Name x p2] X.env = (false, eval (.Name x p2) X.env) :: starEach [] X.env := by rfl) (hpl : (backTo pos (starEach [.Name x p2] X.env)).any (·.1) = false := by rfl) :
    AE X (.Call (.Name "isinstance" p) [e, .Name x p2] [] pos) (mIsa f m) :=
  PE.imp (pe_callB (cr_isa h) hg hm (by decide +kernel) (pa_cons he (pa_cons (pe_bltn (v := .ty T) hgT hmT hv rfl hn hdb) pa_nil hs2) hs) (by decide) (by decide) hs hpl) fun σ H Q ⟨g, S, ρ, w, S', rs, re, e, fin⟩ => by
    unfold mIsa at e
    simp only [Option.bind_eq_some_iff, Option.map_eq_some_iff] at e
    obtain ⟨⟨w1, S1⟩, e1, d, e2, e3⟩ := e
    cases e3
    exact ⟨g, S, ρ, w1, S1, rs, re, e1, fun g1 H1 x1 rs1 v rv => ⟨v, d, rfl, (rd_rt rs1 rv e2).dp, fin g1 H1 x1 rs1 _ (.bl _)⟩⟩
/-! ### chains of two -/
def mChain (f f' : F2) (a b c : M Wv) : M Wv := fun ρ S => (a ρ S).bind fun p => (b ρ p.2).bind fun q => (rd q.2 p.1).bind fun x => (rd q.2 q.1).bind fun y => (f x y).bind fun z => match z with
  | .bool true => (c ρ q.2).bind fun r => (rd r.2 q.1).bind fun y => (rd r.2 r.1).bind fun w => (f' y w).map fun z => (.d z, r.2)
  | .bool false => some (.d (.bool false), q.2)
  | _ => none
theorem chain_run {K : PySem.W.Frag} {r r' : R2} {f f' : F2} {ma mb mc : M Wv} (h : OpD K r f) (h' : OpD K r' f') {σ : L2.St} {H : Hp} {Q : VK} (q : tM K (mChain f f' ma mb mc) σ H Q) : tChain r r' (tM K ma) (tM K mb) (tM K mc) σ H Q := by
  obtain ⟨g, S, ρ, w, S', rs, re, e, fin⟩ := q
  unfold mChain at e
  simp only [Option.bind_eq_some_iff] at e
  obtain ⟨⟨x, S1⟩, e1, ⟨y, S2⟩, e2, dx, e3, dy, e4, dz, e5, e6⟩ := e
  refine ⟨g, S, ρ, x, S1, rs, re, e1, fun g1 H1 x1 rs1 v rv => ⟨g1, S1, ρ, y, S2, rs1, re.mono x1, e2, fun g2 H2 x2 rs2 u ru => ?_⟩⟩
  have rdx := rd_rt rs2 (rv.mono x2) e3
  have rdy := rd_rt rs2 ru e4
  split at e6
  · refine h g2 H2 S2 v u dx dy _ _ rs2 rdx rdy e5 fun z H3 gr r0 => ?_
    cases r0
    have x3 : Ext g2 H2 g2 H3 := gr.ext
    simp only [Option.bind_eq_some_iff, Option.map_eq_some_iff] at e6
    obtain ⟨⟨c, S3⟩, e7, dy', e8, dw, e9, dz', e10, e11⟩ := e6
    cases e11
    refine ⟨true, rfl, ?_⟩
    rw [if_pos rfl]
    refine ⟨g2, S2, ρ, c, S3, rs2.grown gr, ((re.mono x1).mono x2).mono x3, e7, fun g4 H4 x4 rs4 w' rw' => ?_⟩
    exact h' g4 H4 S3 u w' dy' dw dz' Q rs4 (rd_rt rs4 ((ru.mono x3).mono x4) e8) (rd_rt rs4 rw' e9) e10 fun v' H5 gr5 r5 => fin g4 H5 ((((x1.trans x2).trans x3).trans x4).trans gr5.ext) (rs4.grown gr5) v' r5
  · cases e6
    refine h g2 H2 S2 v u dx dy _ _ rs2 rdx rdy e5 fun z H3 gr r0 => ?_
    cases r0
    refine ⟨false, rfl, ?_⟩
    rw [if_neg (by decide)]
    exact fin g2 H3 ((x1.trans x2).trans gr.ext) (rs2.grown gr) _ (.bl false)
  · cases e6
section
variable {a b d : Expr} {ma mb md : M Wv} {pos : Pos} {op op' : CmpOp} {r r' : R2} {f f' : F2}
theorem ae_chain (o : OpR X (compareOp op) r ∧ OpD X.K r f) (o' : OpR X (compareOp op') r' ∧ OpD X.K r' f') (ha : AE X a ma) (hb : AE X b mb) (hd : AE X d md) (hm : lastMarks [op, op'] [b, d] = false := by with_unfolding_all rfl) : AE X (.Compare a [op, op'] [b, d] pos) (mChain f f' ma mb md) :=
  (pe_chain o.1 o'.1 ha hb hd hm).imp fun _ _ _ q => chain_run (ma := ma) (mb := mb) (mc := md) o.2 o'.2 q
theorem at_chain (o : OpR X (compareOp op) r ∧ OpD X.K r f) (o' : OpR X (compareOp op') r' ∧ OpD X.K r' f') (ha : AE X a ma) (hb : AE X b mb) (hd : AE X d md) (hm : lastMarks [op, op'] [b, d] = false := by with_unfolding_all rfl) : AT X (.Compare a [op, op'] [b, d] pos) (mBool (mChain f f' ma mb md)) :=
  (pt_chain o.1 o'.1 ha hb hd hm).imp fun σ H Q ⟨g, S, ρ, w, S', rs, re, e, fin⟩ => by
    have e1 := mBool_some e
    refine chain_run (ma := ma) (mb := mb) (mc := md) o.2 o'.2 ⟨g, S, ρ, _, S', rs, re, e1, fun g1 H1 x1 rs1 v rv => ?_⟩
    cases (rv : R0 X.K g1 H1 v (.bool w))
    exact ⟨w, rfl, fin g1 H1 x1 rs1⟩
end
/-! ### xs.count(k) -/
def mCnt' (o m : M Wv) : M Wv := fun ρ S => (o ρ S).bind fun p => (rd p.2 p.1).bind fun d0 => match d0 with
  | .list _ => (m ρ p.2).bind fun q => (rd q.2 p.1).bind fun d => match d, q.1 with
    | .list xs, .d (.int k) => (intsD xs).map fun ns => (.d (.int ((ns.count k : Nat) : Int)), q.2)
    | _, _ => none
  | _ => none
theorem ae_count {o e : Expr} {mo m : M Wv} {apos cpos : Pos} (ho : AE X o mo) (he : AE X e m) (hbase : attributeBase o "count" X.env (eval o X.env) = eval o X.env := by rfl)
    (hfew : ((backTo cpos (starEach [e] X.env)).all (fun x => !x.1) && (backToKw cpos (keywordEach [] X.env)).all (fun x => x.1.isSome)
      && decide ([e].length + ([] : List Keyword).length + (if ([] : List Keyword).isEmpty then 0 else 1) < 30)) = true := by rfl)
    (hline : (apos.endLine == cpos.line) = true := by rfl) (hs : starEach [e] X.env = (false, eval e X.env) :: starEach [] X.env := by rfl) (hpl : (backTo cpos (starEach [] X.env)).any (·.1) = false := by rfl) :
    AE X (.Call (.Attribute o "count" apos) [e] [] cpos) (mCnt' mo m) :=
  PE.imp (pe_bm PySem.F.plainAttrs_list PySem.F.slot_list_count PySem.F.type_list_count mt_lcount ho (pa_cons he pa_nil hs) hbase hfew hline hs hpl) fun σ H Q ⟨g, S, ρ, w, S', rs, re, e, fin⟩ => by
    unfold mCnt' at e
    simp only [Option.bind_eq_some_iff] at e
    obtain ⟨⟨x, S1⟩, e1, d0, e2, e3⟩ := e
    split at e3
    · simp only [Option.bind_eq_some_iff] at e3
      obtain ⟨⟨y, S2⟩, e4, d, e5, e6⟩ := e3
      split at e6
      · rename_i xs k hk
        simp only [Option.map_eq_some_iff] at e6
        obtain ⟨ns, e7, e8⟩ := e6
        cases e8
        have hk : y = .d (.int k) := hk
        subst hk
        refine ⟨g, S, ρ, x, S1, rs, re, e1, fun g1 H1 x1 rs1 v rv => ?_⟩
        obtain ⟨a, zs, rfl, h, t⟩ := (rd_rt rs1 rv e2).list
        refine ⟨.inl ⟨rfl, zs, .inl (.inl h)⟩, g1, S1, ρ, _, _, rs1, re.mono x1, e4, fun g2 H2 x2 rs2 u ru => ?_⟩
        cases (ru : R0 X.K g2 H2 u (.int k))
        obtain ⟨a', zs', ea, h', t'⟩ := (rd_rt rs2 (rv.mono x2) e5).list
        rw [intsD_ok e7] at t'
        cases t'.int_inv
        exact ⟨a', ns, k, ea, rfl, .inl (.inl h'), fin g2 H2 (x1.trans x2) rs2 _ (.int _)⟩
      · cases e6
    · cases e3
/-! ### tuple(range(n)) -/
theorem rgV_rs {K : PySem.W.Frag} {g : G} {H : Hp} (a b : Int) : R0s K g H (rgV a b) ((List.range (b - a).toNat).map fun i => .int (a + (i : Nat))) := by
  unfold rgV
  generalize List.range (b - a).toNat = l
  induction l with
  | nil => exact .nil
  | cons x l ih => exact .cons (.int _) ih
def mTupRg (m : M Wv) : M Wv := fun ρ S => (m ρ S).bind fun p => match p.1 with
  | .d (.int n) => if rgOk n then some (.d (.tuple ((List.range n.toNat).map fun i => .int (i : Nat))), p.2) else none
  | _ => none
theorem ae_tupRg {e : Expr} {m : M Wv} {p p2 pos pos2 : Pos} (c : Cal X) (hm : X.mg "tuple" = none) (hm2 : X.mg "range" = none) (he : AE X e m) (hg : Gl X "tuple" := by rfl) (hg2 : Gl X "range" := by rfl)
    (hs : starEach [e] X.env = (false, eval e X.env) :: starEach [] X.env := by rfl) (hs2 : starEach [.Call (.Name "range" p2) [e] [] pos2] X.env = (false, eval (.Call (.Name "range" p2) [e] [] pos2) X.env) :: starEach [] X.env := by rfl) :
    AE X (.Call (.Name "tuple" p) [.Call (.Name "range" p2) [e] [] pos2] [] pos) (mTupRg m) :=
  PE.imp (pe_tupRg c.calm hg hm (prg_1 hg2 hm2 he hs) hs2) fun σ H Q ⟨g, S, ρ, w, S', rs, re, e, fin⟩ => by
    unfold mTupRg at e
    simp only [Option.bind_eq_some_iff] at e
    obtain ⟨⟨x, S1⟩, e1, e2⟩ := e
    split at e2
    · rename_i n hn
      split at e2
      · rename_i hk
        cases e2
        have hn : x = .d (.int n) := hn
        subst hn
        have hk := rgOk_ok hk
        refine ⟨g, S, ρ, _, _, rs, re, e1, fun g1 H1 x1 rs1 v rv => ?_⟩
        cases (rv : R0 X.K g1 H1 v (.int n))
        refine ⟨n, rfl, ⟨by omega, by omega, by omega, by omega, by omega⟩, fun q hq => ?_⟩
        have t : R0s X.K g1 H1 (rgV 0 n) ((List.range n.toNat).map fun i => .int (i : Nat)) := by
          have := rgV_rs (K := X.K) (g := g1) (H := H1) 0 n
          simpa using this
        exact fin g1 _ (x1.trans (.upd hq)) (rs1.grown (.inr ⟨q, _, hq, rfl⟩)) _ (R0.newT hq t)
      · cases e2
    · cases e2
end
end Ev
set_option linter.all false
set_option maxRecDepth 100000
set_option maxHeartbeats 4000000
/-! Ev17: append; xs[i] = v; dicts. -/
namespace Ev
open PySem PySem.Spec PyProof.Rows L2
section
variable {X : Cx}
/-- o.append(e), o a cell -/
def mApp (mo me : M Wv) : M Wv := fun ρ S => (mo ρ S).bind fun p => match p.1 with
  | .r n => match p.2[n]? with
    | some (.lst _) => (me ρ p.2).bind fun q => (datW q.1).bind fun y => match q.2[n]? with
      | some (.lst xs) => if few xs.length then some (.d .none, q.2.set n (.lst (xs ++ [y]))) else none
      | _ => none
    | _ => none
  | _ => none
theorem ae_app {o e : Expr} {mo m : M Wv} {apos cpos : Pos} (ho : AE X o mo) (he : AE X e m) (hbase : attributeBase o "append" X.env (eval o X.env) = eval o X.env := by rfl)
    (hfew : ((backTo cpos (starEach [e] X.env)).all (fun x => !x.1) && (backToKw cpos (keywordEach [] X.env)).all (fun x => x.1.isSome)
      && decide ([e].length + ([] : List Keyword).length + (if ([] : List Keyword).isEmpty then 0 else 1) < 30)) = true := by rfl)
    (hline : (apos.endLine == cpos.line) = true := by rfl) (hs : starEach [e] X.env = (false, eval e X.env) :: starEach [] X.env := by rfl) (hpl : (backTo cpos (starEach [] X.env)).any (·.1) = false := by rfl) :
    AE X (.Call (.Attribute o "append" apos) [e] [] cpos) (mApp mo m) :=
  PE.imp (pe_bm PySem.F.plainAttrs_list PySem.F.slot_list_append PySem.F.type_list_append mt_append ho (pa_cons he pa_nil hs) hbase hfew hline hs hpl) fun σ H Q ⟨g, S, ρ, w, S', rs, re, e, fin⟩ => by
    unfold mApp at e
    simp only [Option.bind_eq_some_iff] at e
    obtain ⟨⟨x, S1⟩, e1, e2⟩ := e
    split at e2
    · rename_i n hn
      have hn : x = .r n := hn
      subst hn
      split at e2
      · rename_i xs0 hx0
        simp only [Option.bind_eq_some_iff] at e2
        obtain ⟨⟨y, S2⟩, e3, yd, e4, e5⟩ := e2
        split at e5
        · rename_i xs hx
          split at e5
          · rename_i hf
            cases e5
            refine ⟨g, S, ρ, _, S1, rs, re, e1, fun g1 H1 x1 rs1 v rv => ?_⟩
            obtain ⟨a, rfl, ha⟩ := id rv
            obtain ⟨_, zs0, h0, _⟩ := rs1.at_lst ha hx0
            refine ⟨.inl ⟨rfl, zs0, .inl (.inl h0)⟩, g1, S1, ρ, y, S2, rs1, re.mono x1, e3, fun g2 H2 x2 rs2 u ru => ?_⟩
            obtain ⟨a', ea, ha'⟩ := rv.mono x2
            cases ea
            obtain ⟨hn2, zs, h2, t⟩ := rs2.at_lst ha' hx
            have nf : ¬ Fixed (HO.lst zs) := fun z => z
            have x3 : Ext g2 H2 g2 (upd H2 a (.lst (zs ++ [u]))) := .write (List.mem_of_getElem? hn2) h2 nf
            refine ⟨a, zs, u, rfl, rfl, h2, by rw [t.length]; exact few_lt hf, ?_⟩
            exact fin g2 _ ((x1.trans x2).trans x3) (rs2.write hn2 h2 nf ⟨_, upd_same, (t.append (.cons (datW_r0 ru e4) .nil)).mono x3⟩) _ .non
          · cases e5
        · cases e5
      · cases e2
    · cases e2
/-! ### xs[i] = v -/
def ixS (n : Nat) : Int → Option Nat
  | .ofNat m => if Nat.blt m n then some m else none
  | .negSucc m => if Nat.blt m n then some (n - (m + 1)) else none
theorem ixS_ok {n : Nat} {k : Int} {j : Nat} (h : ixS n k = some j) : ixN n k = some j := by
  cases k with
  | ofNat m =>
    unfold ixS at h
    simp only at h
    split at h
    · rename_i hm
      have hm := Nat.blt_eq.mp hm
      have e : j = m := (Option.some.inj h).symm
      subst e
      unfold ixN
      show (if 0 ≤ (j : Int) then if (j : Int) < n then some (j : Int).toNat else none else if -(n : Int) ≤ (j : Int) then some ((j : Int) + n).toNat else none) = some j
      rw [if_pos (Int.natCast_nonneg j), if_pos (Int.ofNat_lt.mpr hm)]
      rfl
    · cases h
  | negSucc m =>
    unfold ixS at h
    simp only at h
    split at h
    · rename_i hm
      have hm := Nat.blt_eq.mp hm
      have e : j = n - (m + 1) := (Option.some.inj h).symm
      subst e
      unfold ixN
      rw [if_neg (by omega), if_pos (by omega)]
      congr 1
      omega
    · cases h
def mSubL (mo mi mv : M Wv) : MS := fun ρ S => (mv ρ S).bind fun a => (mo ρ a.2).bind fun b => match b.1 with
  | .r n => (mi ρ b.2).bind fun c => match c.1 with
    | .d (.int k) => match c.2[n]? with
      | some (.lst xs) => (ixS xs.length k).bind fun j => (datW a.1).map fun y => (.nx, ρ, c.2.set n (.lst (xs.set j y)))
      | _ => none
    | _ => none
  | _ => none
theorem as_subL {o i e : Expr} {mo mi mv : M Wv} {tpos pos : Pos} (ho : AE X o mo) (hi : AE X i mi) (hv : AE X e mv) (ha : ∀ v, assign (.Subscript o i tpos) X.env v = (do
      let ov ← holding [v] (eval o X.env)
      let iv ← holding [v, ov] (eval i X.env)
      standAt tpos
      holding [v, ov, iv] (setItem ov iv v)
      release [v, ov, iv] []) := by intro _; rfl)
    (hs : swapsWithSole [.Subscript o i tpos] e pos.line X.env = pure false := by rfl) (hw : swappedStores [.Subscript o i tpos] e X.env = pure none := by rfl) (h1 : (assignEach [.Subscript o i tpos] X.env).map (·.2) = [assign (.Subscript o i tpos) X.env] := by rfl) :
    AS X (.Assign [.Subscript o i tpos] e pos) (mSubL mo mi mv) := PS.imp (ps_asg hv (pg_sub ho hi set_list ha) hs hw h1) fun D σ H ⟨g, S, ρ, f, ρ', S', rs, re, e, fin⟩ => by
  unfold mSubL at e
  simp only [Option.bind_eq_some_iff] at e
  obtain ⟨⟨a, S1⟩, e1, ⟨b, S2⟩, e2, e3⟩ := e
  split at e3
  · rename_i n hn
    have hn : b = .r n := hn
    subst hn
    simp only [Option.bind_eq_some_iff] at e3
    obtain ⟨⟨c, S3⟩, e4, e5⟩ := e3
    split at e5
    · rename_i k hk
      have hk : c = .d (.int k) := hk
      subst hk
      split at e5
      · rename_i xs hx
        simp only [Option.bind_eq_some_iff, Option.map_eq_some_iff] at e5
        obtain ⟨j, e6, y, e7, e8⟩ := e5
        cases e8
        refine ⟨g, S, ρ, a, S1, rs, re, e1, fun g1 H1 x1 rs1 v rv => ⟨g1, S1, ρ, _, S2, rs1, re.mono x1, e2, fun g2 H2 x2 rs2 u ru => ⟨g2, S2, ρ, _, _, rs2, (re.mono x1).mono x2, e4, fun g3 H3 x3 rs3 z rz => ?_⟩⟩⟩
        cases (rz : R0 X.K g3 H3 z (.int k))
        obtain ⟨p, rfl, hp⟩ := ru.mono x3
        obtain ⟨hn, zs, h3, t⟩ := rs3.at_lst hp hx
        have nf : ¬ Fixed (HO.lst zs) := fun z => z
        have x4 : Ext g3 H3 g3 (upd H3 p (.lst (zs.set j v))) := .write (List.mem_of_getElem? hn) h3 nf
        have ry := (datW_r0 rv e7)
        refine ⟨p, zs, k, j, rfl, rfl, h3, by rw [t.length]; exact ixS_ok e6, ?_⟩
        exact fin g3 _ (((x1.trans x2).trans x3).trans x4) (rs3.write hn h3 nf ⟨_, upd_same, (t.set j ((ry.mono x2).mono x3)).mono x4⟩) σ ((((re.mono x1).mono x2).mono x3).mono x4)
      · cases e5
    · cases e5
  · cases e3
end
/-! ### dicts -/
def kEq : PyData → PyData → Bool
  | .int i, .int j => decide (i = j)
  | .str x, .str y => decide (x = y)
  | .tuple xs, .tuple ys => kEqs xs ys
  | _, _ => false
where
  kEqs : List PyData → List PyData → Bool
    | [], [] => true
    | .int i :: xs, .int j :: ys => decide (i = j) && kEqs xs ys
    | .str i :: xs, .str j :: ys => decide (i = j) && kEqs xs ys
    | _, _ => false
theorem kEq_key (k l : Key) : kEq (keyD k) (keyD l) = decide (k = l) := by
  cases k <;> cases l <;> simp [keyD, kEq]
theorem kEqs_keys : ∀ (k l : List Key), kEq.kEqs (k.map keyD) (l.map keyD) = decide (k = l)
  | [], [] => by simp [kEq.kEqs]
  | [], _ :: _ => by simp [kEq.kEqs]
  | x :: k, [] => by cases x <;> simp [kEq.kEqs, keyD]
  | x :: k, y :: l => by
    cases x <;> cases y <;> simp [kEq.kEqs, keyD, kEqs_keys k l]
theorem kEq_keys (k l : List Key) : kEq (.tuple (k.map keyD)) (.tuple (l.map keyD)) = decide (k = l) := by
  show kEq.kEqs _ _ = _
  exact kEqs_keys k l
def putP (kvs : List (PyData × PyData)) (k v : PyData) : List (PyData × PyData) := if kvs.any (fun q => kEq q.1 k) then kvs.map (fun q => if kEq q.1 k then (q.1, v) else q) else kvs ++ [(k, v)]
def getP : List (PyData × PyData) → PyData → Option PyData
  | [], _ => none
  | q :: r, k => if kEq q.1 k then some q.2 else getP r k
section
variable {κ : Type} [DecidableEq κ] {R : V → PyData → Prop} {enc : κ → PyData} (he : ∀ k l, kEq (enc k) (enc l) = decide (k = l))
include he
theorem any_enc {k : κ} : ∀ {ps : List (κ × V)} {kvs : List (PyData × PyData)}, Paired (fun (p : κ × V) (q : PyData × PyData) => enc p.1 = q.1 ∧ R p.2 q.2) ps kvs → (ps.any fun kv => decide (kv.1 = k)) = kvs.any fun q => kEq q.1 (enc k)
  | _, _, .nil => rfl
  | _, _, .cons h t => by rw [List.any_cons, List.any_cons, any_enc t, ← h.1, he]
theorem map_enc {k : κ} {v : V} {d : PyData} (r : R v d) : ∀ {ps : List (κ × V)} {kvs : List (PyData × PyData)}, Paired (fun (p : κ × V) (q : PyData × PyData) => enc p.1 = q.1 ∧ R p.2 q.2) ps kvs →
    Paired (fun (p : κ × V) (q : PyData × PyData) => enc p.1 = q.1 ∧ R p.2 q.2) (ps.map fun kv => if kv.1 = k then (kv.1, v) else kv) (kvs.map fun q => if kEq q.1 (enc k) then (q.1, d) else q)
  | _, _, .nil => .nil
  | p :: ps, q :: kvs, .cons h t => by
    rw [List.map_cons, List.map_cons]
    refine .cons ?_ (map_enc r t)
    rw [← h.1, he]
    by_cases z : p.1 = k
    · rw [if_pos z, if_pos (decide_eq_true z)]
      exact ⟨rfl, r⟩
    · rw [if_neg z, if_neg (by simpa using z)]
      exact h
omit he in
theorem app_enc : ∀ {ps ps' : List (κ × V)} {kvs kvs' : List (PyData × PyData)}, Paired (fun (p : κ × V) (q : PyData × PyData) => enc p.1 = q.1 ∧ R p.2 q.2) ps kvs → Paired (fun (p : κ × V) (q : PyData × PyData) => enc p.1 = q.1 ∧ R p.2 q.2) ps' kvs' →
    Paired (fun (p : κ × V) (q : PyData × PyData) => enc p.1 = q.1 ∧ R p.2 q.2) (ps ++ ps') (kvs ++ kvs')
  | _, _, _, _, .nil, h => h
  | _, _, _, _, .cons a t, h => .cons a (app_enc t h)
theorem put_enc {k : κ} {v : V} {d : PyData} {ps : List (κ × V)} {kvs : List (PyData × PyData)} (h : Paired (fun (p : κ × V) (q : PyData × PyData) => enc p.1 = q.1 ∧ R p.2 q.2) ps kvs) (r : R v d) :
    Paired (fun (p : κ × V) (q : PyData × PyData) => enc p.1 = q.1 ∧ R p.2 q.2) (putK ps k v) (putP kvs (enc k) d) := by
  unfold putK putP
  rw [any_enc he h]
  split
  · exact map_enc he r h
  · exact app_enc h (.cons ⟨rfl, r⟩ .nil)
theorem get_enc {k : κ} : ∀ {ps : List (κ × V)} {kvs : List (PyData × PyData)} {d : PyData}, Paired (fun (p : κ × V) (q : PyData × PyData) => enc p.1 = q.1 ∧ R p.2 q.2) ps kvs → getP kvs (enc k) = some d → ∃ v, valV ps k = some v ∧ R v d
  | _, _, _, .nil, e => by cases e
  | p :: ps, q :: kvs, d, .cons h t, e => by
    unfold getP at e
    rw [← h.1, he] at e
    by_cases z : p.1 = k
    · rw [if_pos (decide_eq_true z)] at e
      cases e
      exact ⟨p.2, valV_pos z, h.2⟩
    · rw [if_neg (by simpa using z)] at e
      rw [valV_neg z]
      exact get_enc t e
end
/-- a key of ints and texts -/
def keyOf? : PyData → Option Key
  | .int i => some (.inl i)
  | .str x => some (.inr x)
  | _ => none
theorem keyOf_ok {d : PyData} {k : Key} (h : keyOf? d = some k) : d = keyD k := by
  unfold keyOf? at h
  split at h <;> cases h <;> rfl
def keysOf? : List PyData → Option (List Key)
  | [] => some []
  | d :: ds => (keyOf? d).bind fun k => (keysOf? ds).map (k :: ·)
theorem keysOf_ok : ∀ {ds : List PyData} {ks : List Key}, keysOf? ds = some ks → ds = ks.map keyD
  | [], _, h => by cases h; rfl
  | d :: ds, _, h => by
    unfold keysOf? at h
    simp only [Option.bind_eq_some_iff, Option.map_eq_some_iff] at h
    obtain ⟨k, h1, ks, h2, h3⟩ := h
    cases h3
    rw [keyOf_ok h1, keysOf_ok h2]
    rfl
theorem key_v {K : PySem.W.Frag} {g : G} {H : Hp} {v : V} {k : Key} (r : R0 K g H v (keyD k)) : v = kV k := by
  cases k <;> (cases r; rfl)
theorem keys_v {K : PySem.W.Frag} {g : G} {H : Hp} : ∀ {k : List Key} {vs : List V}, R0s K g H vs (k.map keyD) → vs = k.map kV
  | [], _, h => by cases h; rfl
  | k :: ks, _, h => by
    cases h with
    | cons h t => rw [key_v h, keys_v t]; rfl
section
variable {X : Cx} {pos : Pos}
/-- {} -/
def mDic0 (b : Bool) : M Wv := fun _ S => some (.r S.length, S ++ [.dic b []])
theorem new_cell {K : PySem.W.Frag} {g : G} {H : Hp} {S : Sto} (rs : RS K g H S) {p : Addr} {o : HO} {c : Cell} (hp : H p = none) (hc : CellOk K ⟨g.al ++ [some p], g.hid⟩ (upd H p o) p c) :
    Ext g H ⟨g.al ++ [some p], g.hid⟩ (upd H p o) ∧ RS K ⟨g.al ++ [some p], g.hid⟩ (upd H p o) (S ++ [c]) ∧ RW K ⟨g.al ++ [some p], g.hid⟩ (upd H p o) (.ref p) (.r S.length) := by
  refine ⟨Ext.publish (.upd hp) hp, (rs.hide hp).publish (rs.fresh hp).2 hc, p, rfl, .inl ?_⟩
  show (g.al ++ [some p])[S.length]? = _
  rw [← rs.len, List.getElem?_append_right (Nat.le_refl _), Nat.sub_self]
  rfl
theorem ae_dicK : AE X (.Dict [] [] pos) (mDic0 false) := pe_dnewK.imp fun σ H Q ⟨g, S, ρ, w, S', rs, re, e, fin⟩ => by
  cases e
  intro p hp
  obtain ⟨x, rs2, rw2⟩ := new_cell (K := X.K) (o := .dK []) (c := .dic false []) rs hp (.inl ⟨rfl, [], upd_same, .nil⟩)
  exact fin _ _ x rs2 _ rw2
theorem ae_dicT : AE X (.Dict [] [] pos) (mDic0 true) := pe_dnewT.imp fun σ H Q ⟨g, S, ρ, w, S', rs, re, e, fin⟩ => by
  cases e
  intro p hp
  obtain ⟨x, rs2, rw2⟩ := new_cell (K := X.K) (o := .dT []) (c := .dic true []) rs hp (.inr ⟨rfl, [], upd_same, .nil⟩)
  exact fin _ _ x rs2 _ rw2
theorem RS.at_dic {K : PySem.W.Frag} {g : G} {H : Hp} {S : Sto} (rs : RS K g H S) {n : Nat} {a : Addr} {b : Bool} {kvs : List (PyData × PyData)} (h : g.al[n]? = some (some a) ∨ g.al[n]? = some none) (e : S[n]? = some (.dic b kvs)) : g.al[n]? = some (some a) ∧ CellOk K g H a (.dic b kvs) := by
  rcases rs.ok n _ e with ⟨_, z⟩ | ⟨a', ha, c⟩
  · cases z
  · have : a' = a := by
      rcases h with h | h
      · rw [ha] at h; exact Option.some.inj (Option.some.inj h)
      · rw [ha] at h; cases Option.some.inj h
    subst this
    exact ⟨ha, c⟩
/-- a key that suits the dict -/
def okKey : Bool → PyData → Bool
  | false, k => (keyOf? k).isSome
  | true, .tuple ds => (keysOf? ds).isSome
  | true, _ => false
/-- d[k] = v: the value first -/
def mPut (mo mi mv : M Wv) : MS := fun ρ S => (mv ρ S).bind fun a => (mo ρ a.2).bind fun b => match b.1 with
  | .r n => (mi ρ b.2).bind fun c => match c.2[n]? with
    | some (.dic t kvs) => (datW c.1).bind fun k => (datW a.1).bind fun y => if okKey t k && few kvs.length then some (.nx, ρ, c.2.set n (.dic t (putP kvs k y))) else none
    | _ => none
  | _ => none
theorem as_put {o i e : Expr} {mo mi mv : M Wv} {tpos : Pos} (c : Cal X) (ho : AE X o mo) (hi : AE X i mi) (hv : AE X e mv) (hs : swapsWith e (some (.Subscript o i tpos)) pos.line X.env = pure false := by rfl) :
    AS X (.Assign [.Subscript o i tpos] e pos) (mPut mo mi mv) := PS.imp (ps_dput (by have := c.hu; omega) ho hi hv hs) fun D σ H ⟨g, S, ρ, f, ρ', S', rs, re, e, fin⟩ => by
  unfold mPut at e
  simp only [Option.bind_eq_some_iff] at e
  obtain ⟨⟨a, S1⟩, e1, ⟨b, S2⟩, e2, e3⟩ := e
  split at e3
  · rename_i n hn
    have hn : b = .r n := hn
    subst hn
    simp only [Option.bind_eq_some_iff] at e3
    obtain ⟨⟨c, S3⟩, e4, e5⟩ := e3
    split at e5
    · rename_i t kvs hx
      simp only [Option.bind_eq_some_iff] at e5
      obtain ⟨k, e6, y, e7, e8⟩ := e5
      split at e8
      · rename_i hk
        cases e8
        rw [Bool.and_eq_true] at hk
        obtain ⟨hk, hf⟩ := hk
        refine ⟨g, S, ρ, a, S1, rs, re, e1, fun g1 H1 x1 rs1 v rv => ⟨g1, S1, ρ, _, S2, rs1, re.mono x1, e2, fun g2 H2 x2 rs2 u ru => ⟨g2, S2, ρ, _, _, rs2, (re.mono x1).mono x2, e4, fun g3 H3 x3 rs3 z rz => ?_⟩⟩⟩
        have rk := datW_r0 rz e6
        have ry := ((datW_r0 rv e7).mono x2).mono x3
        obtain ⟨p, rfl, hp⟩ := ru.mono x3
        obtain ⟨hn, hc⟩ := rs3.at_dic hp hx
        rcases hc with ⟨rfl, ps, h3, tt⟩ | ⟨rfl, ps, h3, tt⟩
        · obtain ⟨key, hkey⟩ := Option.isSome_iff_exists.mp hk
          have ek := keyOf_ok hkey
          subst ek
          have ez := key_v rk
          subst ez
          have lf : ps.length < sizeLine := by rw [Paired.length tt]; exact few_lt hf
          have nf : ¬ Fixed (HO.dK ps) := fun z => z
          have x4 : Ext g3 H3 g3 (upd H3 p (.dK (putK ps key v))) := .write (List.mem_of_getElem? hn) h3 nf
          refine ⟨p, _, rfl, DPut.k h3 lf, ?_⟩
          refine fin g3 _ (((x1.trans x2).trans x3).trans x4) (rs3.write hn h3 nf (.inl ⟨rfl, _, upd_same, ?_⟩)) σ ((((re.mono x1).mono x2).mono x3).mono x4)
          exact Paired.mapP (put_enc (R := fun v d => R0 X.K g3 H3 v d) kEq_key tt ry) fun _ _ z => ⟨z.1, z.2.mono x4⟩
        · cases k with
          | tuple ds =>
            obtain ⟨key, hkey⟩ := Option.isSome_iff_exists.mp hk
            have ek := keysOf_ok hkey
            subst ek
            cases rk with
            | tup hb tb =>
              rename_i q zs
              cases keys_v tb
              have lf : ps.length < sizeLine := by rw [Paired.length tt]; exact few_lt hf
              have nf : ¬ Fixed (HO.dT ps) := fun z => z
              have x4 : Ext g3 H3 g3 (upd H3 p (.dT (putK ps key v))) := .write (List.mem_of_getElem? hn) h3 nf
              refine ⟨p, _, rfl, DPut.t h3 hb lf, ?_⟩
              refine fin g3 _ (((x1.trans x2).trans x3).trans x4) (rs3.write hn h3 nf (.inr ⟨rfl, _, upd_same, ?_⟩)) σ ((((re.mono x1).mono x2).mono x3).mono x4)
              exact Paired.mapP (put_enc (R := fun v d => R0 X.K g3 H3 v d) (enc := fun k : List Key => .tuple (k.map keyD)) kEq_keys tt ry) fun _ _ z => ⟨z.1, z.2.mono x4⟩
          | _ => cases hk
      · cases e8
    · cases e5
  · cases e3
end
end Ev
set_option linter.all false
set_option maxRecDepth 100000
set_option maxHeartbeats 4000000
/-! Ev18: len and list of a dict. -/
namespace Ev
open PySem PySem.Spec PyProof.Rows L2
section
variable {X : Cx} {e : Expr} {m : M Wv} {p pos : Pos}
def mLenD (m : M Wv) : M Wv := fun ρ S => (m ρ S).bind fun p => match p.1 with
  | .r n => match p.2[n]? with
    | some (.dic _ kvs) => some (.d (.int ((kvs.length : Nat) : Int)), p.2)
    | _ => none
  | _ => none
def rLenD : List V → Hp → VK → Prop := fun xs H Q => (∃ a kvs, xs = [V.ref a] ∧ H a = some (.dK kvs) ∧ Q (.int kvs.length) H) ∨ ∃ (p : Addr) (kvs : List (List Key × V)), xs = [.ref p] ∧ H p = some (.dT kvs) ∧ Q (.int ((kvs.length : Nat) : Int)) H
theorem cr_lenD : CallR X (.builtin "len") rLenD := fun pins s σ H xs us Q I r h => h.elim (call_lenD pins s σ H xs us Q I r) (call_len_dT pins s σ H xs us Q I r)
theorem ae_lenD (hm : X.mg "len" = none) (he : AE X e m) (hg : Gl X "len" := by rfl) (hs : starEach [e] X.env = (false, eval e X.env) :: starEach [] X.env := by rfl) (hpl : (backTo pos (starEach [] X.env)).any (·.1) = false := by rfl) : AE X (.Call (.Name "len" p) [e] [] pos) (mLenD m) :=
  PE.imp (pe_callB cr_lenD hg hm (by decide +kernel) (pa_cons he pa_nil hs) (by decide) (by decide) hs hpl) fun σ H Q ⟨g, S, ρ, w, S', rs, re, e, fin⟩ => by
    unfold mLenD at e
    simp only [Option.bind_eq_some_iff] at e
    obtain ⟨⟨x, S1⟩, e1, e2⟩ := e
    split at e2
    · rename_i n hn
      have hn : x = .r n := hn
      subst hn
      split at e2
      · rename_i b kvs hx
        cases e2
        refine ⟨g, S, ρ, _, _, rs, re, e1, fun g1 H1 x1 rs1 v rv => ?_⟩
        obtain ⟨a, rfl, ha⟩ := rv
        obtain ⟨_, hc⟩ := rs1.at_dic ha hx
        rcases hc with ⟨_, ps, h, t⟩ | ⟨_, ps, h, t⟩
        · refine .inl ⟨a, ps, rfl, h, ?_⟩
          rw [Paired.length t]
          exact fin g1 H1 x1 rs1 _ (.int _)
        · refine .inr ⟨a, ps, rfl, h, ?_⟩
          rw [Paired.length t]
          exact fin g1 H1 x1 rs1 _ (.int _)
      · cases e2
    · cases e2
/-- list(d), keys ints and texts -/
def mListD (m : M Wv) : M (List PyData) := fun ρ S => (m ρ S).bind fun p => match p.1 with
  | .r n => match p.2[n]? with
    | some (.dic false kvs) => some (kvs.map (·.1), p.2)
    | _ => none
  | _ => none
theorem keys_rs {K : PySem.W.Frag} {g : G} {H H' : Hp} : ∀ {ps : List (Key × V)} {kvs : List (PyData × PyData)}, Paired (fun (p : Key × V) (q : PyData × PyData) => keyD p.1 = q.1 ∧ R0 K g H p.2 q.2) ps kvs → R0s K g H' (ps.map fun kv => kV kv.1) (kvs.map (·.1))
  | _, _, .nil => .nil
  | (k, v) :: ps, q :: kvs, .cons h t => by
    refine .cons ?_ (keys_rs t)
    show R0 K g H' (kV k) q.1
    rw [← show keyD k = q.1 from h.1]
    cases k
    · exact .int _
    · exact .str _
theorem af_listD (c : Cal X) (hm : X.mg "list" = none) (he : AE X e m) (hg : Gl X "list" := by rfl) (hs : starEach [e] X.env = (false, eval e X.env) :: starEach [] X.env := by rfl) (hpl : (backTo pos (starEach [] X.env)).any (·.1) = false := by rfl) : AF X (.Call (.Name "list" p) [e] [] pos) (mListD m) :=
  PE.imp (pe_callTy (x := "list") (call_list_dK c.calm) hg hm (by decide +kernel) (pa_cons he pa_nil hs) (by decide) (by decide) hs hpl) fun σ H Q ⟨g, S, ρ, ds, S', rs, re, e, fin⟩ => by
    unfold mListD at e
    simp only [Option.bind_eq_some_iff] at e
    obtain ⟨⟨x, S1⟩, e1, e2⟩ := e
    split at e2
    · rename_i n hn
      have hn : x = .r n := hn
      subst hn
      split at e2
      · rename_i kvs hx
        cases e2
        refine ⟨g, S, ρ, _, _, rs, re, e1, fun g1 H1 x1 rs1 v rv => ?_⟩
        obtain ⟨a, rfl, ha⟩ := rv
        obtain ⟨_, hc⟩ := rs1.at_dic ha hx
        rcases hc with ⟨_, ps, h, t⟩ | ⟨z, _⟩
        · refine ⟨a, ps, rfl, h, fun l hl => ?_⟩
          obtain ⟨r1, np, t1⟩ := fresh_lst rs1 hl (keys_rs (H' := H1) t)
          exact fin g1 _ l _ (x1.trans (.upd hl)) r1 (x1.noneB hl) np upd_same t1
        · cases z
      · cases e2
    · cases e2
end
end Ev
set_option linter.all false
set_option maxRecDepth 100000
set_option maxHeartbeats 4000000
/-! Ev19: -x. -/
namespace Ev
open PySem PySem.Spec PyProof.Rows L2
section
variable {X : Cx} {e : Expr} {m : M Wv} {p pos : Pos}
def mNeg (m : M Wv) : M Wv := fun ρ S => (m ρ S).bind fun p => match p.1 with
  | .d (.int i) => some (.d (.int (-i)), p.2)
  | _ => none
theorem ae_neg (he : AE X e m) : AE X (.UnaryOp .USub e pos) (mNeg m) := (pe_un un_neg he).imp fun σ H Q ⟨g, S, ρ, w, S', rs, re, e, fin⟩ => by
  unfold mNeg at e
  simp only [Option.bind_eq_some_iff] at e
  obtain ⟨⟨x, S1⟩, e1, e2⟩ := e
  split at e2
  · rename_i i hi
    cases e2
    have hi : x = .d (.int i) := hi
    subst hi
    refine ⟨g, S, ρ, _, _, rs, re, e1, fun g1 H1 x1 rs1 v rv => ?_⟩
    cases (rv : R0 X.K g1 H1 v (.int i))
    exact ⟨i, rfl, fin g1 H1 x1 rs1 _ (.int _)⟩
  · cases e2
end
end Ev
set_option linter.all false
set_option maxRecDepth 100000
set_option maxHeartbeats 4000000
/-! Ev20: max(xs, key=len), xs a list of tuples. -/
namespace Ev
open PySem PySem.Spec PyProof.Rows L2 PySem.W
section
variable {prog : Program} {w : World} {A : Around} {E : Value → Shared → Prop} {s : Shared}
theorem max_len_raw {l : Addr} {vs : Array Value} {ns : Nat → Nat} {Q : Value → Shared → Prop} (hh : A.handled = none) (hl : s.heap.IsList l vs) (hn : 0 < vs.size)
    (ht : ∀ i v, vs[i]? = some v → ∃ (a : Addr) (its : Array Value), v = .ref a ∧ s.heap.IsTuple a its ∧ its.size = ns i ∧ its.size ≤ sizeLine)
    (h : ∀ v h' tk, vs[argBest (fun i j => decide ((ns i : Int) > (ns j : Int))) (vs.size - 1)]? = some v → (∀ b o, s.heap.get? b = some o → h'.get? b = some o) → Q v { s with heap := h', toks := tk }) :
    wpAny (model prog w) A (call (.builtin "max") [.ref l] [(Str.ofString "key", .builtin "len")]) Q E s := by
  refine call_max_walkKB (iter_listW (A := A.in1) hh hl fun s₂ e W st hfp hw hk => ?_)
  refine ⟨_, _, _, _, _, _, _, fun s' => (∃ h' tk, s' = { s with heap := h', toks := tk }) ∧ (∀ b o, s.heap.get? b = some o → s'.heap.get? b = some o), fun i k _ => ∃ t, k = .int (ns i : Int) t, fun i j => decide ((ns i : Int) > (ns j : Int)), rfl, W, st, hfp, hn, ?_, ⟨⟨_, s.toks, e⟩, hk⟩, fun v s' hp hJ => ?_⟩
  · have hS : ∀ b o, s.heap.get? b = some o → b ≠ s₂.heap.objs.size := fun b o eb z => by
      have := hk b o eb
      rw [z] at this
      exact absurd (Heap.lt_size this) (Nat.lt_irrefl _)
    refine ⟨fun s1 s2 hJ m => ?_, fun _ _ _ _ q _ => q, fun i v s1 o Q E hi hv hJ hst hS' hq => ?_, fun i j ki kj s1 Q E _ hi hj hq => ?_⟩
    · obtain ⟨⟨h1, tk, e1⟩, k1⟩ := hJ
      refine ⟨⟨s2.heap, s2.toks, ?_⟩, fun b o eb => m.heap b o (fun hb => ?_) (k1 b o eb)⟩
      · obtain ⟨hp, g, d, tk2, os⟩ := s2
        subst e1
        have a1 : g = s.gens := m.gens
        have a2 : d = s.drawn := m.drawn
        have a3 : os = s.os := m.os
        subst a1 a2 a3
        rfl
      · rcases List.mem_cons.mp hb with z | z
        · exact hS b o eb z
        · exact hw b o eb z
    · obtain ⟨a, its, rfl, hit, hsz, hfit⟩ := ht i v hv
      obtain ⟨⟨h1, tk, e1⟩, k1⟩ := hJ
      have hit' : IsTup s1.heap a its := by
        obtain ⟨o, ho, r⟩ := hit
        exact ⟨o, k1 a o ho, r⟩
      subst e1
      refine len_tuple hit' (by have hl := line63; have hs : sizeLine = 16777216 := sizeLine_eq; omega) ?_
      refine hq _ _ ⟨⟨h1, _, rfl⟩, k1⟩ hst hS' ⟨_, by rw [hsz]⟩ fun _ _ q => q
    · obtain ⟨t, rfl⟩ := hi
      obtain ⟨t', rfl⟩ := hj
      exact P.gt_int hq
  · obtain ⟨⟨h1, tk, e1⟩, k1⟩ := hJ
    subst e1
    exact h v h1 tk hp k1
end
section
variable {X : Cx}
/-- items that are tuples, their lengths -/
def tupLens : List PyData → Option (List Nat)
  | [] => some []
  | .tuple xs :: r => (tupLens r).map (xs.length :: ·)
  | _ :: _ => none
theorem tupLens_at : ∀ {ds : List PyData} {ns : List Nat} {i : Nat} {d : PyData}, tupLens ds = some ns → ds[i]? = some d → ∃ xs, d = .tuple xs ∧ ns.getD i 0 = xs.length
  | [], _, _, _, _, e => by simp at e
  | .tuple xs :: r, ns, i, d, h, e => by
    unfold tupLens at h
    simp only [Option.map_eq_some_iff] at h
    obtain ⟨ms, h1, rfl⟩ := h
    cases i with
    | zero => simp at e; subst e; exact ⟨xs, rfl, rfl⟩
    | succ i => exact tupLens_at (i := i) h1 (by simpa using e)
  | .none :: _, _, _, _, h, _ => by cases h
  | .bool _ :: _, _, _, _, h, _ => by cases h
  | .int _ :: _, _, _, _, h, _ => by cases h
  | .str _ :: _, _, _, _, h, _ => by cases h
  | .list _ :: _, _, _, _, h, _ => by cases h
  | .dict _ :: _, _, _, _, h, _ => by cases h
theorem tupLens_len : ∀ {ds : List PyData} {ms : List Nat}, tupLens ds = some ms → ms.length = ds.length
  | [], _, h => by cases h; rfl
  | .tuple xs :: r, ms, h => by
    unfold tupLens at h
    simp only [Option.map_eq_some_iff] at h
    obtain ⟨ms', h1, rfl⟩ := h
    rw [List.length_cons, List.length_cons, tupLens_len h1]
  | .none :: _, _, h => by cases h
  | .bool _ :: _, _, h => by cases h
  | .int _ :: _, _, h => by cases h
  | .str _ :: _, _, h => by cases h
  | .list _ :: _, _, h => by cases h
  | .dict _ :: _, _, h => by cases h
def bestLen (ns : List Nat) : Nat := argBest (fun i j => Nat.blt (ns.getD j 0) (ns.getD i 0)) (ns.length - 1)
def dMaxLen : FC
  | [.list (x :: xs)] => (tupLens (x :: xs)).bind fun ns => (x :: xs)[bestLen ns]?
  | _ => none
def tMaxLen (K : PySem.W.Frag) (te : TE) : TE := fun σ H Q => te σ H fun x H1 => ∃ (a : Addr) (xs : List V) (ns : Nat → Nat), x = .ref a ∧ SqL K H1 a xs ∧ 0 < xs.length ∧ (∀ i v, xs[i]? = some v → ∃ b zs, v = .ref b ∧ SqT K H1 b zs ∧ zs.length = ns i) ∧
  ∀ v, xs[argBest (fun i j => decide ((ns i : Int) > (ns j : Int))) (xs.length - 1)]? = some v → Q v H1
theorem pe_maxLen {e : Expr} {te : TE} {p p2 kpos pos : Pos} (c : Cal X) (hm : X.mg "max" = none) (hm2 : X.mg "len" = none) (he : PE X e te) (hg : Gl X "max" := by rfl) (hg2 : Gl X "len" := by rfl)
    (hs : starEach [e] X.env = (false, eval e X.env) :: starEach [] X.env := by rfl) (hb : backTo pos (starEach [e] X.env) = (false, eval e X.env) :: backTo pos (starEach [] X.env) := by rfl) (hpl : (backTo pos (starEach [e] X.env)).any (·.1) = false := by rfl)
    (hall : (backToKw pos (keywordEach [⟨some "key", .Name "len" p2, kpos⟩] X.env)).all (·.1.isSome) = true := by rfl) (hnone : (backToKw pos (keywordEach [⟨some "key", .Name "len" p2, kpos⟩] X.env)).any (·.1.isNone) = false := by rfl) (hks : (backToKw pos (keywordEach [⟨some "key", .Name "len" p2, kpos⟩] X.env)).filterMap (·.1) = [("key" : Str)] := by rfl) :
    PE X (.Call (.Name "max" p) [e] [⟨some "key", .Name "len" p2, kpos⟩] pos) (tMaxLen X.K te) := by
  refine ⟨fun pins s σ H Q I h => ?_⟩
  refine wpAny_Call_Name_kw (ld_blt I hg hm (u := .builtin "max") (by decide +kernel) ?_ (by decide) (by decide))
  have ha : PA X [e] (tCons te tNil) := pa_cons he pa_nil hs
  refine PyProof.Rows.callWith_kw (thn (ha.run pos pins s σ H (fun vs H1 => match vs with
    | [x] => ∃ (a : Addr) (xs : List V) (ns : Nat → Nat), x = .ref a ∧ SqL X.K H1 a xs ∧ 0 < xs.length ∧ (∀ i v, xs[i]? = some v → ∃ b zs, v = .ref b ∧ SqT X.K H1 b zs ∧ zs.length = ns i) ∧
      ∀ v, xs[argBest (fun i j => decide ((ns i : Int) > (ns j : Int))) (xs.length - 1)]? = some v → Q v H1
    | _ => False) I h) fun us s1 ⟨vs, H1, I1, r1, q1⟩ => ?_) hb hpl hall hnone
  · show wpAny _ _ (evalAll ((do let v ← eval (.Name "len" p2) X.env; standAt pos; pure v) :: [])) _ _ s1
    refine wpAny_evalAll_cons (wpAny_bind (ld_blt I1 hg2 hm2 (u := .builtin "len") (by decide +kernel) (wpAny_bind (wpAny_standAt (wpAny_pure (wpAny_evalAll_nil ?_)))) (by decide) (by decide)))
    rw [hks]
    obtain ⟨x0, rfl⟩ : ∃ x0, vs = [x0] := by
      match vs, q1 with
      | [x], _ => exact ⟨x, rfl⟩
    obtain ⟨a, xs, ns, rfl, hl, hn, ht, q⟩ := q1
    rw [Vals.ref1 r1]
    obtain ⟨its, rv, pl, hz⟩ := I1.list hl
    have ll := rv.length
    refine max_len_raw (ns := ns) (I.ok.hd c.calm) pl.isList (by simp; omega) (fun i v hv => ?_) fun v h' tk hv hk => ?_
    · obtain ⟨x, h1, h2⟩ := vals_get rv (by simpa using hv)
      obtain ⟨b, zs, rfl, hq, hzs⟩ := ht i x h1
      obtain ⟨zits, rz, pz, hzz⟩ := I1.tuple hq
      have lz := rz.length
      exact ⟨b, zits.toArray, h2, pz, by simp; omega, by simp; omega⟩
    · have e1 : its.toArray.size - 1 = xs.length - 1 := by simp; omega
      rw [e1, List.getElem?_toArray] at hv
      obtain ⟨x, h1, h2⟩ := vals_get rv hv
      exact ⟨x, H1, I1.kept hk, h2, q x h1⟩
theorem argBest_congr {f g : Nat → Nat → Bool} (h : ∀ i j, f i j = g i j) (k : Nat) : argBest f k = argBest g k := by
  have : f = g := funext fun i => funext fun j => h i j
  rw [this]
theorem ae_maxLen {e : Expr} {m : M Wv} {p p2 kpos pos : Pos} (c : Cal X) (hm : X.mg "max" = none) (hm2 : X.mg "len" = none) (he : AE X e m) (hg : Gl X "max" := by rfl) (hg2 : Gl X "len" := by rfl)
    (hs : starEach [e] X.env = (false, eval e X.env) :: starEach [] X.env := by rfl) (hb : backTo pos (starEach [e] X.env) = (false, eval e X.env) :: backTo pos (starEach [] X.env) := by rfl) (hpl : (backTo pos (starEach [e] X.env)).any (·.1) = false := by rfl)
    (hall : (backToKw pos (keywordEach [⟨some "key", .Name "len" p2, kpos⟩] X.env)).all (·.1.isSome) = true := by rfl) (hnone : (backToKw pos (keywordEach [⟨some "key", .Name "len" p2, kpos⟩] X.env)).any (·.1.isNone) = false := by rfl) (hks : (backToKw pos (keywordEach [⟨some "key", .Name "len" p2, kpos⟩] X.env)).filterMap (·.1) = [("key" : Str)] := by rfl) :
    AE X (.Call (.Name "max" p) [e] [⟨some "key", .Name "len" p2, kpos⟩] pos) (mCall dMaxLen (mCons m mNil)) :=
  PE.imp (pe_maxLen c hm hm2 he hg hg2 hs hb hpl hall hnone hks) fun σ H Q ⟨g, S, ρ, w, S', rs, re, e, fin⟩ => by
    unfold mCall mCons mNil at e
    simp only [Option.bind_eq_some_iff, Option.map_eq_some_iff] at e
    obtain ⟨⟨ws, S1⟩, ⟨⟨w1, S2⟩, e1, ⟨ws2, S3⟩, e2, e3⟩, ds, e4, dz, e5, e6⟩ := e
    cases e2
    cases e3
    cases e6
    unfold rds rds at e4
    simp only [Option.bind_eq_some_iff, Option.map_eq_some_iff] at e4
    obtain ⟨d, e7, ds', e8, e9⟩ := e4
    cases e8
    cases e9
    unfold dMaxLen at e5
    split at e5
    · rename_i x xs he
      cases he
      simp only [Option.bind_eq_some_iff] at e5
      obtain ⟨ns, e10, e11⟩ := e5
      refine ⟨g, S, ρ, w1, _, rs, re, e1, fun g1 H1 x1 rs1 v rv => ?_⟩
      obtain ⟨a, zs, rfl, h, t⟩ := (rd_rt rs1 rv e7).list
      have hl : zs.length = xs.length + 1 := t.length
      have nl := @tupLens_len
      refine ⟨a, zs, fun i => ns.getD i 0, rfl, .inl (.inl h), by omega, fun i u hu => ?_, fun u hu => ?_⟩
      · obtain ⟨d, h1, h2⟩ := t.get hu
        obtain ⟨ys, rfl, hy⟩ := tupLens_at e10 h1
        cases h2 with
        | tup h3 t3 => exact ⟨_, _, rfl, .inl (.inl h3), t3.length.trans hy.symm⟩
      · obtain ⟨d, h1, h2⟩ := t.get hu
        have eb : bestLen ns = argBest (fun i j => decide (((ns.getD i 0 : Nat) : Int) > ((ns.getD j 0 : Nat) : Int))) (zs.length - 1) := by
          unfold bestLen
          rw [nl e10, hl]
          refine argBest_congr (fun i j => ?_) _
          rw [Bool.eq_iff_iff, Nat.blt_eq, decide_eq_true_iff]
          omega
        rw [eb, h1] at e11
        cases e11
        exact fin g1 H1 x1 rs1 u h2
    · cases e5
end
end Ev
set_option linter.all false
set_option maxRecDepth 100000
set_option maxHeartbeats 4000000
/-! Ev21: a def that calls itself: the end of the depth. -/
namespace Ev
open PySem PySem.Spec PyProof.Rows L2
theorem def_none {P : Program} {w : World} {K : PySem.W.Frag} {mg : Str → Option Value} {base : Heap} {x qual : Str} {params : Arguments} {body : List Stmt} {scope : Scope} {f : Addr} {fd : FuncData} {ps : List Str} {k : Nat} (F : FunD K x qual params body scope [] [] f fd) (hm : mg x = some (.ref f))
    (hb : ∀ (kV doc pm : Value) (an : Option Addr) (cdv ct : Value) (us : List Value), us.length = ps.length → bindArgs (PySem.W.fnOf x qual params body scope .none kV doc pm an cdv ct) ⟨us, []⟩ = pure (ps.zip us)) : DefOk P w K mg base k x (fun _ _ => none) :=
  ⟨f, fd, ps, ⟨fun vs H Q E h => (let ⟨_, _, _, _, _, _, _, e, _⟩ := h; nomatch e), fun A outer s H args us vs Q E hr he hb hv h => (let ⟨_, _, _, _, _, _, _, e, _⟩ := h; nomatch e)⟩, hm, F.kp, F.bindsN hb⟩
end Ev
set_option linter.all false
/-! P1: words over letters that commute in pairs (traces), by projections. -/
namespace Tr
/-- which letters are free with one another -/
structure Fr where
  free : Nat → Nat → Bool
  symm : ∀ a b, free a b = free b a
  irr : ∀ a, free a a = false
variable (F : Fr)
def proj (a b : Nat) (w : List Nat) : List Nat := w.filter fun x => x == a || x == b
/-- the same trace -/
def Eqv (w v : List Nat) : Prop := ∀ a b, F.free a b = false → proj a b w = proj a b v
theorem Eqv.refl (w : List Nat) : Eqv F w w := fun _ _ _ => rfl
variable {F}
theorem Eqv.symm {w v : List Nat} (h : Eqv F w v) : Eqv F v w := fun a b t => (h a b t).symm
theorem Eqv.trans {w v u : List Nat} (h : Eqv F w v) (h' : Eqv F v u) : Eqv F w u := fun a b t => (h a b t).trans (h' a b t)
theorem proj_append (a b : Nat) (w v : List Nat) : proj a b (w ++ v) = proj a b w ++ proj a b v := List.filter_append ..
theorem Eqv.append {w w' v v' : List Nat} (h : Eqv F w w') (h' : Eqv F v v') : Eqv F (w ++ v) (w' ++ v') := fun a b t => by rw [proj_append, proj_append, h a b t, h' a b t]
theorem Eqv.cancel_left {u w v : List Nat} (h : Eqv F (u ++ w) (u ++ v)) : Eqv F w v := fun a b t => by
  have := h a b t
  rw [proj_append, proj_append] at this
  exact List.append_cancel_left this
theorem Eqv.cancel_right {u w v : List Nat} (h : Eqv F (w ++ u) (v ++ u)) : Eqv F w v := fun a b t => by
  have := h a b t
  rw [proj_append, proj_append] at this
  exact List.append_cancel_right this
theorem proj_reverse (a b : Nat) (w : List Nat) : proj a b w.reverse = (proj a b w).reverse := List.filter_reverse ..
theorem Eqv.reverse {w v : List Nat} (h : Eqv F w v) : Eqv F w.reverse v.reverse := fun a b t => by rw [proj_reverse, proj_reverse, h a b t]
theorem count_proj (a : Nat) (w : List Nat) : (proj a a w).length = w.count a := by
  unfold proj
  rw [List.count_eq_length_filter]
  congr 1
  exact List.filter_congr fun x _ => by simp
theorem Eqv.count {w v : List Nat} (h : Eqv F w v) (a : Nat) : w.count a = v.count a := by
  rw [← count_proj, ← count_proj, h a a (F.irr a)]
theorem Eqv.perm {w v : List Nat} (h : Eqv F w v) : w.Perm v := List.perm_iff_count.mpr h.count
theorem Eqv.length {w v : List Nat} (h : Eqv F w v) : w.length = v.length := h.perm.length_eq
theorem Eqv.mem {w v : List Nat} (h : Eqv F w v) {a : Nat} : a ∈ w ↔ a ∈ v := h.perm.mem_iff
/-! ### a letter is taken from the front -/
/-- the first a, if all before it are free with a -/
def take (F : Fr) (a : Nat) : List Nat → Option (List Nat)
  | [] => none
  | x :: w => if x == a then some w else if F.free a x then (take F a w).map (x :: ·) else none
theorem take_eqv {a : Nat} : ∀ {w r : List Nat}, take F a w = some r → Eqv F w (a :: r)
  | [], r, h => by cases h
  | x :: w, r, h => by
    unfold take at h
    split at h
    · rename_i hx
      have : x = a := by simpa using hx
      subst this
      cases h
      exact Eqv.refl F _
    · rename_i hx
      split at h
      · rename_i hf
        simp only [Option.map_eq_some_iff] at h
        obtain ⟨r', h1, rfl⟩ := h
        have ih := take_eqv h1
        intro c d t
        have e1 := ih c d t
        unfold proj at e1 ⊢
        rw [List.filter_cons, e1, List.filter_cons, List.filter_cons, List.filter_cons]
        by_cases xc : (x == c || x == d) = true
        · by_cases ac : (a == c || a == d) = true
          · exfalso
            have hxa : x ≠ a := by simpa using hx
            have t' : F.free d c = false := by rw [F.symm]; exact t
            simp only [Bool.or_eq_true, beq_iff_eq] at xc ac
            rcases xc with rfl | rfl <;> rcases ac with rfl | rfl
            · exact hxa rfl
            · rw [t'] at hf; cases hf
            · rw [t] at hf; cases hf
            · exact hxa rfl
          · simp [xc, ac]
        · simp [xc]
      · cases h
theorem take_front {a : Nat} : ∀ {w : List Nat}, a ∈ w → (∀ c, F.free a c = false → (proj a c w).head? = some a) → ∃ r, take F a w = some r
  | [], h, _ => by cases h
  | x :: w, h, k => by
    unfold take
    by_cases hx : (x == a) = true
    · exact ⟨w, if_pos hx⟩
    · have hxa : x ≠ a := by simpa using hx
      rw [if_neg hx]
      have hf : F.free a x = true := by
        cases q : F.free a x with
        | true => rfl
        | false =>
          have := k x q
          unfold proj at this
          simp at this
          exact absurd this hxa
      rw [if_pos hf]
      obtain ⟨r, hr⟩ := take_front (w := w) ((List.mem_cons.mp h).resolve_left fun z => hxa z.symm) fun c t => by
        have := k c t
        have hxc : x ≠ c := fun z => by
          rw [z, t] at hf
          cases hf
        unfold proj at this ⊢
        rw [List.filter_cons_of_neg (by simp [hxa, hxc])] at this
        exact this
      exact ⟨x :: r, by rw [hr]; rfl⟩
/-- and that is so whenever the word is a, then another -/
theorem take_of {a : Nat} {w r : List Nat} (h : Eqv F w (a :: r)) : ∃ r', take F a w = some r' ∧ Eqv F r' r := by
  obtain ⟨r', h1⟩ := take_front (h.mem.mpr List.mem_cons_self) fun c t => by
    rw [h a c t]
    unfold proj
    simp
  exact ⟨r', h1, Eqv.cancel_left (u := [a]) ((take_eqv h1).symm.trans h)⟩
theorem take_none {a : Nat} {w : List Nat} (h : take F a w = none) (r : List Nat) : ¬ Eqv F w (a :: r) := fun e => by
  obtain ⟨r', h1, _⟩ := take_of e
  rw [h] at h1
  cases h1
/-- taking from words that are one trace -/
theorem take_resp {a : Nat} {w v r : List Nat} (e : Eqv F w v) (h : take F a w = some r) : ∃ r', take F a v = some r' ∧ Eqv F r' r := take_of (e.symm.trans (take_eqv h))
theorem take_len {a : Nat} {w r : List Nat} (h : take F a w = some r) : w.length = r.length + 1 := (take_eqv h).length
theorem take_mem {a : Nat} {w r : List Nat} (h : take F a w = some r) : a ∈ w := (take_eqv h).mem.mpr List.mem_cons_self
/-! ### the least word -/
/-- the least letter that can be taken -/
def lfirst (F : Fr) (w : List Nat) : Option Nat := (w.filter fun a => (take F a w).isSome).min?
def least (F : Fr) : Nat → List Nat → List Nat
  | 0, _ => []
  | n + 1, w => match lfirst F w with
    | none => []
    | some a => match take F a w with
      | none => []
      | some r => a :: least F n r
abbrev lst (F : Fr) (w : List Nat) : List Nat := least F w.length w
theorem lfirst_some {w : List Nat} (h : w ≠ []) : ∃ a r, lfirst F w = some a ∧ take F a w = some r ∧ ∀ b, (take F b w).isSome → a ≤ b := by
  cases w with
  | nil => exact absurd rfl h
  | cons x w =>
    have hx : (take F x (x :: w)).isSome = true := by unfold take; rw [if_pos (by simp)]; rfl
    have m : x ∈ (x :: w).filter fun a => (take F a (x :: w)).isSome := List.mem_filter.mpr ⟨List.mem_cons_self, hx⟩
    cases q : ((x :: w).filter fun a => (take F a (x :: w)).isSome).min? with
    | none =>
      rw [List.min?_eq_none_iff] at q
      rw [q] at m
      cases m
    | some a =>
      have ⟨h1, h2⟩ := List.min?_eq_some_iff.mp q
      obtain ⟨r, hr⟩ := Option.isSome_iff_exists.mp (List.mem_filter.mp h1).2
      refine ⟨a, r, q, hr, fun b hb => h2 b (List.mem_filter.mpr ⟨?_, hb⟩)⟩
      obtain ⟨r', hr'⟩ := Option.isSome_iff_exists.mp hb
      exact take_mem hr'
theorem least_eqv : ∀ (n : Nat) (w : List Nat), w.length = n → Eqv F (least F n w) w
  | 0, w, h => by rw [List.length_eq_zero_iff.mp h]; exact Eqv.refl F _
  | n + 1, w, h => by
    obtain ⟨a, r, h1, h2, _⟩ := lfirst_some (F := F) (w := w) (by rintro rfl; cases h)
    unfold least
    rw [h1]
    simp only [h2]
    have := take_len h2
    exact (Eqv.append (w := [a]) (w' := [a]) (Eqv.refl F _) (least_eqv n r (by omega))).trans (take_eqv h2).symm
theorem lst_eqv (w : List Nat) : Eqv F (lst F w) w := least_eqv _ w rfl
theorem take_isSome_resp {w v : List Nat} (e : Eqv F w v) (a : Nat) : (take F a w).isSome = (take F a v).isSome := by
  cases q : take F a w with
  | some r =>
    obtain ⟨r', h, _⟩ := take_resp e q
    rw [h]
    rfl
  | none =>
    cases q' : take F a v with
    | none => rfl
    | some r =>
      obtain ⟨r', h, _⟩ := take_resp e.symm q'
      rw [q] at h
      cases h
theorem least_canon : ∀ (n : Nat) (w v : List Nat), w.length = n → v.length = n → Eqv F w v → least F n w = least F n v
  | 0, w, v, h, h', _ => rfl
  | n + 1, w, v, h, h', e => by
    obtain ⟨a, r, h1, h2, h3⟩ := lfirst_some (F := F) (w := w) (by rintro rfl; cases h)
    obtain ⟨b, s, k1, k2, k3⟩ := lfirst_some (F := F) (w := v) (by rintro rfl; cases h')
    have ab : a = b := Nat.le_antisymm (h3 b (by rw [take_isSome_resp e, k2]; rfl)) (k3 a (by rw [← take_isSome_resp e, h2]; rfl))
    subst ab
    unfold least
    rw [h1, k1]
    simp only [h2, k2]
    have l1 := take_len h2
    have l2 := take_len k2
    congr 1
    refine least_canon n r s (by omega) (by omega) ?_
    exact Eqv.cancel_left (u := [a]) ((take_eqv h2).symm.trans (e.trans (take_eqv k2)))
theorem lst_canon {w v : List Nat} (e : Eqv F w v) : lst F w = lst F v := by
  unfold lst
  rw [e.length]
  exact least_canon _ _ _ e.length rfl e
theorem lst_iff {w v : List Nat} : lst F w = lst F v ↔ Eqv F w v := ⟨fun h => (lst_eqv w).symm.trans (h ▸ lst_eqv v), lst_canon⟩
theorem lst_lst (w : List Nat) : lst F (lst F w) = lst F w := lst_canon (lst_eqv w)
theorem lst_length (w : List Nat) : (lst F w).length = w.length := (lst_eqv w).length
/-- a pile: the least of its words -/
def Nf (F : Fr) (w : List Nat) : Prop := lst F w = w
theorem Nf.lst (w : List Nat) : Nf F (lst F w) := lst_lst w
theorem Nf.eq {w v : List Nat} (h : Nf F w) (h' : Nf F v) (e : Eqv F w v) : w = v := h.symm.trans ((lst_canon e).trans h')
/-! ### one behind the other -/
def takes (F : Fr) : List Nat → List Nat → Option (List Nat)
  | [], w => some w
  | a :: u, w => (take F a w).bind (takes F u)
theorem takes_eqv : ∀ {u w r : List Nat}, takes F u w = some r → Eqv F w (u ++ r)
  | [], w, r, h => by cases h; exact Eqv.refl F _
  | a :: u, w, r, h => by
    unfold takes at h
    simp only [Option.bind_eq_some_iff] at h
    obtain ⟨s, h1, h2⟩ := h
    exact (take_eqv h1).trans (Eqv.append (w := [a]) (w' := [a]) (Eqv.refl F _) (takes_eqv h2))
theorem takes_of : ∀ {u w r : List Nat}, Eqv F w (u ++ r) → ∃ r', takes F u w = some r' ∧ Eqv F r' r
  | [], w, r, h => ⟨w, rfl, h⟩
  | a :: u, w, r, h => by
    obtain ⟨s, h1, h2⟩ := take_of (r := u ++ r) h
    obtain ⟨r', h3, h4⟩ := takes_of h2
    exact ⟨r', by unfold takes; rw [h1]; exact h3, h4⟩
/-- what is left of w behind u -/
def behind (F : Fr) (u w : List Nat) : Option (List Nat) := (takes F u w).map (lst F)
theorem behind_some {u w r : List Nat} : behind F u w = some r ↔ Nf F r ∧ Eqv F w (u ++ r) := by
  unfold behind
  constructor
  · intro h
    simp only [Option.map_eq_some_iff] at h
    obtain ⟨s, h1, rfl⟩ := h
    exact ⟨Nf.lst s, (takes_eqv h1).trans (Eqv.append (Eqv.refl F _) (lst_eqv s).symm)⟩
  · rintro ⟨h1, h2⟩
    obtain ⟨s, h3, h4⟩ := takes_of h2
    rw [h3]
    show some (lst F s) = some r
    rw [lst_canon h4]
    exact congrArg some h1
end Tr
set_option linter.all false
/-! M1: normal words letter by letter; all normal words of a length. -/
namespace Tr
variable {F : Fr}
theorem take_hd (b : Nat) (w : List Nat) : take F b (b :: w) = some w := by unfold take; rw [if_pos (by simp)]
theorem take_cons_of {a b : Nat} (h : a ≠ b) (w : List Nat) : take F a (b :: w) = if F.free a b then (take F a w).map (b :: ·) else none := by
  conv => lhs; unfold take
  rw [if_neg (by simpa using fun z => h z.symm)]
theorem take_cons_isSome {a b : Nat} {w : List Nat} : (take F a (b :: w)).isSome = true ↔ a = b ∨ (F.free a b = true ∧ (take F a w).isSome = true) := by
  by_cases h : a = b
  · subst h; rw [take_hd]; simp
  · rw [take_cons_of h]
    cases q : F.free a b <;> simp [h]
theorem nf_nil : Nf F [] := rfl
theorem nf_cons {b : Nat} {w : List Nat} : Nf F (b :: w) ↔ Nf F w ∧ ∀ a, (take F a (b :: w)).isSome = true → b ≤ a := by
  obtain ⟨a, r, h1, h2, h3⟩ := lfirst_some (F := F) (w := b :: w) (by simp)
  have e : lst F (b :: w) = a :: least F w.length r := by
    show least F (w.length + 1) (b :: w) = _
    rw [least, h1]
    simp only [h2]
  constructor
  · intro h
    unfold Nf at h
    rw [e] at h
    injection h with ha hr
    subst ha
    rw [take_hd] at h2
    cases h2
    exact ⟨hr, h3⟩
  · rintro ⟨hw, hm⟩
    have hba := hm a (by rw [h2]; rfl)
    have hab := h3 b (by rw [take_hd]; rfl)
    have : a = b := Nat.le_antisymm hab hba
    subst this
    rw [take_hd] at h2
    cases h2
    unfold Nf
    rw [e]
    exact congrArg (a :: ·) hw
theorem take_append_isSome {a : Nat} {v : List Nat} : ∀ {u : List Nat}, (take F a (u ++ v)).isSome = true ↔ (take F a u).isSome = true ∨ ((∀ x ∈ u, F.free a x = true) ∧ (take F a v).isSome = true)
  | [] => by simp [take]
  | b :: u => by
    rw [List.cons_append, take_cons_isSome, take_cons_isSome, take_append_isSome (u := u)]
    constructor
    · rintro (h | ⟨h1, h2 | ⟨h2, h3⟩⟩)
      · exact .inl (.inl h)
      · exact .inl (.inr ⟨h1, h2⟩)
      · refine .inr ⟨fun x hx => ?_, h3⟩
        rcases List.mem_cons.mp hx with rfl | hx
        · exact h1
        · exact h2 x hx
    · rintro ((h | ⟨h1, h2⟩) | ⟨h1, h2⟩)
      · exact .inl h
      · exact .inr ⟨h1, .inl h2⟩
      · exact .inr ⟨h1 b List.mem_cons_self, .inr ⟨fun x hx => h1 x (List.mem_cons_of_mem _ hx), h2⟩⟩
theorem take_one {a c : Nat} : (take F c [a]).isSome = true ↔ c = a := by
  rw [take_cons_isSome]
  simp [take]
/-- a may stand before some letter of w that is greater -/
def Bar (F : Fr) (a : Nat) : List Nat → Prop
  | [] => False
  | b :: w => Bar F a w ∨ (a < b ∧ F.free a b = true ∧ ∀ x ∈ w, F.free a x = true)
theorem nf_snoc {a : Nat} : ∀ {w : List Nat}, Nf F (w ++ [a]) ↔ Nf F w ∧ ¬ Bar F a w
  | [] => by
    rw [List.nil_append, nf_cons]
    refine ⟨fun _ => ⟨nf_nil, fun z => z⟩, fun _ => ⟨nf_nil, fun c hc => ?_⟩⟩
    rw [take_one.mp hc]
    exact Nat.le_refl _
  | b :: w => by
    rw [List.cons_append, nf_cons, nf_cons, nf_snoc (w := w)]
    have key : ∀ c, (take F c (b :: (w ++ [a]))).isSome = true ↔ (take F c (b :: w)).isSome = true ∨ ((∀ x ∈ b :: w, F.free c x = true) ∧ c = a) := fun c => by
      rw [← List.cons_append, take_append_isSome, take_one]
    constructor
    · rintro ⟨⟨h1, h2⟩, h3⟩
      refine ⟨⟨h1, fun c hc => h3 c ((key c).mpr (.inl hc))⟩, ?_⟩
      rintro (h | ⟨h4, h5, h6⟩)
      · exact h2 h
      · have := h3 a ((key a).mpr (.inr ⟨fun x hx => by
          rcases List.mem_cons.mp hx with rfl | hx
          · exact h5
          · exact h6 x hx, rfl⟩))
        omega
    · rintro ⟨⟨h1, h2⟩, h3⟩
      refine ⟨⟨h1, fun z => h3 (.inl z)⟩, fun c hc => ?_⟩
      rcases (key c).mp hc with h | ⟨h4, rfl⟩
      · exact h2 c h
      · apply Nat.le_of_not_lt
        intro hlt
        exact h3 (.inr ⟨hlt, h4 b List.mem_cons_self, fun x hx => h4 x (List.mem_cons_of_mem _ hx)⟩)
theorem bar_snoc {a l : Nat} : ∀ {w : List Nat}, Bar F a (w ++ [l]) ↔ (a < l ∨ Bar F a w) ∧ F.free a l = true
  | [] => by simp [Bar]
  | b :: w => by
    rw [List.cons_append, Bar, Bar, bar_snoc (w := w)]
    constructor
    · rintro (⟨h1, h2⟩ | ⟨h1, h2, h3⟩)
      · exact ⟨h1.elim .inl fun h => .inr (.inl h), h2⟩
      · exact ⟨.inr (.inr ⟨h1, h2, fun x hx => h3 x (List.mem_append_left _ hx)⟩), h3 l (by simp)⟩
    · rintro ⟨h1 | h1 | ⟨h1, h2, h3⟩, h4⟩
      · exact .inl ⟨.inl h1, h4⟩
      · exact .inl ⟨.inr h1, h4⟩
      · refine .inr ⟨h1, h2, fun x hx => ?_⟩
        rcases List.mem_append.mp hx with hx | hx
        · exact h3 x hx
        · rw [List.mem_singleton.mp hx]; exact h4
/-- what is barred behind l -/
def stepN (F : Fr) (n : Nat) (B : List Nat) (l : Nat) : List Nat := ((List.range n).filter fun o => decide (o < l) || B.contains o).filter fun o => F.free o l
def BarOk (F : Fr) (n : Nat) (w B : List Nat) : Prop := ∀ a, a < n → (a ∈ B ↔ Bar F a w)
theorem barOk_nil (n : Nat) : BarOk F n [] [] := fun a _ => by simp [Bar]
theorem barOk_step {n : Nat} {w B : List Nat} (h : BarOk F n w B) (l : Nat) : BarOk F n (w ++ [l]) (stepN F n B l) := fun a ha => by
  rw [bar_snoc]
  unfold stepN
  simp only [List.mem_filter, List.mem_range, Bool.or_eq_true, decide_eq_true_eq, List.contains_iff_mem]
  rw [h a ha]
  constructor
  · rintro ⟨⟨_, h1⟩, h2⟩; exact ⟨h1, h2⟩
  · rintro ⟨h1, h2⟩; exact ⟨⟨ha, h1⟩, h2⟩
/-! ### the order of words -/
def wlt : List Nat → List Nat → Bool
  | a :: u, b :: w => if a = b then wlt u w else decide (a < b)
  | [], _ :: _ => true
  | _, [] => false
theorem wlt_irr : ∀ w : List Nat, wlt w w = false
  | [] => rfl
  | a :: w => by rw [wlt, if_pos rfl]; exact wlt_irr w
theorem wlt_trans : ∀ {u v w : List Nat}, wlt u v = true → wlt v w = true → wlt u w = true
  | [], _, [], h1, h2 => by cases ‹List Nat› <;> simp_all [wlt]
  | [], _, _ :: _, _, _ => by simp [wlt]
  | a :: u, [], w, h1, _ => by simp [wlt] at h1
  | a :: u, b :: v, [], _, h2 => by simp [wlt] at h2
  | a :: u, b :: v, c :: w, h1, h2 => by
    rw [wlt] at h1 h2 ⊢
    split at h1
    · rename_i e; subst e
      split at h2
      · rename_i e; subst e
        rw [if_pos rfl]; exact wlt_trans h1 h2
      · rename_i e
        rw [if_neg e]; exact h2
    · rename_i e
      split at h2
      · rename_i e'; subst e'
        rw [if_neg e]; exact h1
      · rename_i e'
        have h1 := of_decide_eq_true h1
        have h2 := of_decide_eq_true h2
        rw [if_neg (by omega)]
        exact decide_eq_true (by omega)
theorem wlt_total : ∀ {u v : List Nat}, u ≠ v → wlt u v = true ∨ wlt v u = true
  | [], [], h => absurd rfl h
  | [], _ :: _, _ => .inl rfl
  | _ :: _, [], _ => .inr rfl
  | a :: u, b :: v, h => by
    rw [wlt, wlt]
    by_cases e : a = b
    · subst e
      rw [if_pos rfl, if_pos rfl]
      exact wlt_total fun z => h (by rw [z])
    · rw [if_neg e, if_neg (Ne.symm e)]
      rcases Nat.lt_or_gt_of_ne e with h | h
      · exact .inl (decide_eq_true h)
      · exact .inr (decide_eq_true h)
theorem wlt_asymm {u v : List Nat} (h : wlt u v = true) : wlt v u = false := by
  cases q : wlt v u with
  | false => rfl
  | true => have := wlt_trans h q; rw [wlt_irr] at this; cases this
theorem wlt_app : ∀ {u v x y : List Nat}, u.length = v.length → wlt u v = true → wlt (u ++ x) (v ++ y) = true
  | [], [], _, _, _, h => by simp [wlt] at h
  | a :: u, b :: v, x, y, e, h => by
    rw [List.cons_append, List.cons_append, wlt]
    rw [wlt] at h
    split
    · rename_i q; rw [if_pos q] at h; exact wlt_app (by simpa using e) h
    · rename_i q; rw [if_neg q] at h; exact h
theorem wlt_app_same : ∀ {u x y : List Nat}, wlt (u ++ x) (u ++ y) = wlt x y
  | [], _, _ => rfl
  | a :: u, x, y => by rw [List.cons_append, List.cons_append, wlt, if_pos rfl]; exact wlt_app_same
/-- rising rows with the same members are one row -/
theorem sorted_ext : ∀ {l l' : List (List Nat)}, l.Pairwise (fun u v => wlt u v = true) → l'.Pairwise (fun u v => wlt u v = true) → (∀ w, w ∈ l ↔ w ∈ l') → l = l'
  | [], [], _, _, _ => rfl
  | [], y :: ys, _, _, h => absurd ((h y).mpr List.mem_cons_self) (by simp)
  | x :: xs, [], _, _, h => absurd ((h x).mp List.mem_cons_self) (by simp)
  | x :: xs, y :: ys, h1, h2, h => by
    rw [List.pairwise_cons] at h1 h2
    have e : x = y := by
      rcases List.mem_cons.mp ((h x).mp List.mem_cons_self) with e | m
      · exact e
      · rcases List.mem_cons.mp ((h y).mpr List.mem_cons_self) with e | m'
        · exact e.symm
        · have a := h1.1 y m'
          have b := h2.1 x m
          rw [wlt_asymm a] at b
          cases b
    subst e
    congr 1
    refine sorted_ext h1.2 h2.2 fun w => ⟨fun m => ?_, fun m => ?_⟩
    · rcases List.mem_cons.mp ((h w).mp (List.mem_cons_of_mem _ m)) with e | m'
      · subst e; have := h1.1 w m; rw [wlt_irr] at this; cases this
      · exact m'
    · rcases List.mem_cons.mp ((h w).mpr (List.mem_cons_of_mem _ m)) with e | m'
      · subst e; have := h2.1 w m; rw [wlt_irr] at this; cases this
      · exact m'
/-! ### all normal words of a length -/
def nstep (F : Fr) (n : Nat) (p : List Nat × List Nat) : List (List Nat × List Nat) := ((List.range n).filter fun a => !p.2.contains a).map fun a => (p.1 ++ [a], stepN F n p.2 a)
def nline (F : Fr) (n : Nat) : Nat → List (List Nat × List Nat)
  | 0 => [([], [])]
  | k + 1 => (nline F n k).flatMap (nstep F n)
def nfs (F : Fr) (n k : Nat) : List (List Nat) := (nline F n k).map (·.1)
theorem nline_ok (n : Nat) : ∀ (k : Nat), ∀ p ∈ nline F n k, p.1.length = k ∧ (∀ a ∈ p.1, a < n) ∧ Nf F p.1 ∧ BarOk F n p.1 p.2
  | 0, p, h => by
    have := List.mem_singleton.mp h
    subst this
    exact ⟨rfl, by simp, nf_nil, barOk_nil n⟩
  | k + 1, p, h => by
    obtain ⟨q, hq, hp⟩ := List.mem_flatMap.mp h
    obtain ⟨h1, h2, h3, h4⟩ := nline_ok n k q hq
    obtain ⟨a, ha, rfl⟩ := List.mem_map.mp hp
    obtain ⟨ha, hb⟩ := List.mem_filter.mp ha
    have ha := List.mem_range.mp ha
    refine ⟨by simp [h1], fun x hx => ?_, nf_snoc.mpr ⟨h3, fun z => ?_⟩, barOk_step h4 a⟩
    · rcases List.mem_append.mp hx with hx | hx
      · exact h2 x hx
      · rw [List.mem_singleton.mp hx]; exact ha
    · have := (h4 a ha).mpr z
      simp [this] at hb
theorem nline_all (n : Nat) : ∀ (k : Nat) (w : List Nat), w.length = k → (∀ a ∈ w, a < n) → Nf F w → ∃ B, (w, B) ∈ nline F n k
  | 0, w, h, _, _ => ⟨[], by rw [List.length_eq_zero_iff.mp h]; exact List.mem_singleton.mpr rfl⟩
  | k + 1, w, h, hw, hn => by
    rcases List.eq_nil_or_concat w with rfl | ⟨u, a, rfl⟩
    · cases h
    · rw [List.concat_eq_append] at *
      have hn := nf_snoc.mp hn
      have ha : a < n := hw a (by simp)
      obtain ⟨B, hB⟩ := nline_all n k u (by simpa using h) (fun x hx => hw x (List.mem_append_left _ hx)) hn.1
      have hb := (nline_ok n k _ hB).2.2.2
      refine ⟨stepN F n B a, List.mem_flatMap.mpr ⟨_, hB, List.mem_map.mpr ⟨a, List.mem_filter.mpr ⟨List.mem_range.mpr ha, ?_⟩, rfl⟩⟩⟩
      have : ¬ a ∈ B := fun z => hn.2 ((hb a ha).mp z)
      simpa using this
theorem mem_nfs {n k : Nat} {w : List Nat} : w ∈ nfs F n k ↔ w.length = k ∧ (∀ a ∈ w, a < n) ∧ Nf F w := by
  constructor
  · intro h
    obtain ⟨p, hp, rfl⟩ := List.mem_map.mp h
    obtain ⟨h1, h2, h3, _⟩ := nline_ok n k p hp
    exact ⟨h1, h2, h3⟩
  · rintro ⟨h1, h2, h3⟩
    obtain ⟨B, hB⟩ := nline_all n k w h1 h2 h3
    exact List.mem_map.mpr ⟨_, hB, rfl⟩
theorem nline_sorted (n : Nat) : ∀ k : Nat, (nline F n k).Pairwise fun p q => wlt p.1 q.1 = true
  | 0 => by simp [nline]
  | k + 1 => by
    unfold nline
    rw [List.pairwise_flatMap]
    refine ⟨fun p hp => ?_, ?_⟩
    · unfold nstep
      rw [List.pairwise_map]
      refine List.Pairwise.filter _ (List.Pairwise.imp ?_ List.pairwise_lt_range)
      intro a b hab
      show wlt (p.1 ++ [a]) (p.1 ++ [b]) = true
      rw [wlt_app_same, wlt, if_neg (by omega)]
      exact decide_eq_true hab
    · refine List.Pairwise.imp_of_mem ?_ (nline_sorted n k)
      intro p q hp hq hpq x hx y hy
      obtain ⟨a, _, rfl⟩ := List.mem_map.mp hx
      obtain ⟨b, _, rfl⟩ := List.mem_map.mp hy
      exact wlt_app (by rw [(nline_ok n k p hp).1, (nline_ok n k q hq).1]) hpq
theorem nfs_sorted (n k : Nat) : (nfs F n k).Pairwise fun u v => wlt u v = true := by
  unfold nfs
  rw [List.pairwise_map]
  exact nline_sorted n k
theorem nfs_nodup (n k : Nat) : (nfs F n k).Nodup := (nfs_sorted n k).imp fun {u v} h e => by
  subst e
  rw [wlt_irr] at h
  cases h
end Tr
set_option linter.all false
/-! M2: what is left behind a beginning; masks of beginnings. -/
namespace Tr
variable {F : Fr}
theorem sorted_uniq {s l : List (List Nat)} (hp : s.Perm l) (hs : s.Pairwise fun u v => wlt v u = false) (hl : l.Pairwise fun u v => wlt u v = true) : s = l := by
  have nd : l.Nodup := hl.imp fun {u v} h e => by subst e; rw [wlt_irr] at h; cases h
  have nd' : s.Nodup := hp.nodup_iff.mpr nd
  refine sorted_ext ?_ hl fun w => hp.mem_iff
  refine (hs.and nd').imp fun {u v} h => ?_
  rcases wlt_total h.2 with q | q
  · exact q
  · rw [h.1] at q; cases q
theorem nodup_map {α β : Type} {f : α → β} : ∀ {l : List α}, (∀ x ∈ l, ∀ y ∈ l, f x = f y → x = y) → l.Nodup → (l.map f).Nodup
  | [], _, _ => List.nodup_nil
  | x :: l, h, nd => by
    rw [List.nodup_cons] at nd
    rw [List.map_cons, List.nodup_cons]
    refine ⟨fun m => ?_, nodup_map (fun a ha b hb => h a (List.mem_cons_of_mem _ ha) b (List.mem_cons_of_mem _ hb)) nd.2⟩
    obtain ⟨y, hy, e⟩ := List.mem_map.mp m
    have := h y (List.mem_cons_of_mem _ hy) x List.mem_cons_self e
    subst this
    exact nd.1 hy
theorem nodup_filter {α : Type} {p : α → Bool} {l : List α} (h : l.Nodup) : (l.filter p).Nodup := List.Pairwise.filter p h
theorem lst_mem {n : Nat} {w : List Nat} (h : ∀ a ∈ w, a < n) : ∀ a ∈ lst F w, a < n := fun a ha => h a ((lst_eqv w).mem.mp ha)
/-- a way of taking off: r is left of w just if w is one of f r -/
theorem perm_left {n k m : Nat} {u : List Nat} (hk : u.length + m = k) (hu : ∀ a ∈ u, a < n) (o : List Nat → Option (List Nat)) (j : List Nat → List Nat)
    (ho : ∀ w r, o w = some r ↔ Nf F r ∧ Eqv F w (j r)) (hj : ∀ r, (j r).Perm (u ++ r)) :
    (((nfs F n k).filter fun w => (o w).isSome).map fun w => (o w).getD []).Perm (nfs F n m) := by
  have some_at : ∀ w ∈ (nfs F n k).filter fun w => (o w).isSome, ∃ r, o w = some r ∧ w ∈ nfs F n k := fun w hw => by
    obtain ⟨h1, h2⟩ := List.mem_filter.mp hw
    obtain ⟨r, hr⟩ := Option.isSome_iff_exists.mp h2
    exact ⟨r, hr, h1⟩
  refine (List.perm_ext_iff_of_nodup (nodup_map ?_ (nodup_filter (nfs_nodup n k))) (nfs_nodup n m)).mpr fun r => ?_
  · intro x hx y hy e
    obtain ⟨r, hr, mx⟩ := some_at x hx
    obtain ⟨s, hs, my⟩ := some_at y hy
    rw [hr, hs] at e
    have e : r = s := e
    subst e
    exact (mem_nfs.mp mx).2.2.eq (mem_nfs.mp my).2.2 (((ho x r).mp hr).2.trans ((ho y r).mp hs).2.symm)
  · constructor
    · intro h
      obtain ⟨w, hw, e⟩ := List.mem_map.mp h
      obtain ⟨s, hs, mw⟩ := some_at w hw
      rw [hs] at e
      have e : s = r := e
      subst e
      obtain ⟨h1, h2⟩ := (ho w s).mp hs
      obtain ⟨m1, m2, m3⟩ := mem_nfs.mp mw
      have pm := h2.perm.trans (hj s)
      refine mem_nfs.mpr ⟨?_, fun a ha => m2 a (pm.mem_iff.mpr (List.mem_append_right _ ha)), h1⟩
      have := pm.length_eq
      rw [List.length_append] at this
      omega
    · intro h
      obtain ⟨m1, m2, m3⟩ := mem_nfs.mp h
      have e : o (lst F (j r)) = some r := (ho _ r).mpr ⟨m3, lst_eqv _⟩
      refine List.mem_map.mpr ⟨lst F (j r), List.mem_filter.mpr ⟨mem_nfs.mpr ⟨?_, ?_, Nf.lst _⟩, by rw [e]; rfl⟩, by rw [e]; rfl⟩
      · rw [lst_length, (hj r).length_eq, List.length_append]; omega
      · refine lst_mem fun a ha => ?_
        rcases List.mem_append.mp ((hj r).mem_iff.mp ha) with h | h
        · exact hu a h
        · exact m2 a h
theorem perm_behind {n k m : Nat} {u : List Nat} (hk : u.length + m = k) (hu : ∀ a ∈ u, a < n) :
    (((nfs F n k).filter fun w => (behind F u w).isSome).map fun w => (behind F u w).getD []).Perm (nfs F n m) :=
  perm_left hk hu (behind F u) (u ++ ·) (fun _ _ => behind_some) fun _ => .refl _
def turned (F : Fr) (w : List Nat) : List Nat := lst F w.reverse
def ahead (F : Fr) (u w : List Nat) : Option (List Nat) := (behind F u.reverse w.reverse).map (turned F)
theorem ahead_some {u w r : List Nat} : ahead F u w = some r ↔ Nf F r ∧ Eqv F w (r ++ u) := by
  unfold ahead turned
  constructor
  · intro h
    simp only [Option.map_eq_some_iff] at h
    obtain ⟨s, h1, rfl⟩ := h
    obtain ⟨h2, h3⟩ := behind_some.mp h1
    refine ⟨Nf.lst _, ?_⟩
    have := h3.reverse
    rw [List.reverse_reverse, List.reverse_append, List.reverse_reverse] at this
    exact this.trans (Eqv.append (lst_eqv _).symm (Eqv.refl F _))
  · rintro ⟨h1, h2⟩
    have e : behind F u.reverse w.reverse = some (lst F r.reverse) := behind_some.mpr ⟨Nf.lst _, by
      have := h2.reverse
      rw [List.reverse_append] at this
      exact this.trans (Eqv.append (Eqv.refl F _) (lst_eqv _).symm)⟩
    rw [e]
    show some (lst F (lst F r.reverse).reverse) = some r
    have := (lst_eqv (F := F) r.reverse).reverse
    rw [List.reverse_reverse] at this
    rw [lst_canon this, h1]
theorem perm_ahead {n k m : Nat} {u : List Nat} (hk : u.length + m = k) (hu : ∀ a ∈ u, a < n) :
    (((nfs F n k).filter fun w => (ahead F u w).isSome).map fun w => (ahead F u w).getD []).Perm (nfs F n m) :=
  perm_left hk hu (ahead F u) (· ++ u) (fun _ _ => ahead_some) fun _ => List.perm_append_comm
/-! ### masks -/
def kept : List Nat → List Bool → List Nat
  | x :: w, b :: m => if b then x :: kept w m else kept w m
  | _, _ => []
def left : List Nat → List Bool → List Nat
  | x :: w, b :: m => if b then left w m else x :: left w m
  | w, [] => w
  | [], _ => []
/-- what is kept may come first -/
def Idl (F : Fr) : List Nat → List Bool → Prop
  | x :: w, b :: m => Idl F w m ∧ (b = false → ∀ y ∈ kept w m, F.free x y = true)
  | [], [] => True
  | _, _ => False
theorem free_front {x : Nat} : ∀ {u : List Nat}, (∀ y ∈ u, F.free x y = true) → Eqv F (u ++ [x]) (x :: u)
  | [], _ => Eqv.refl F _
  | y :: u, h => by
    have ih := free_front (u := u) fun z hz => h z (List.mem_cons_of_mem _ hz)
    have h1 : Eqv F (y :: (u ++ [x])) (y :: x :: u) := Eqv.append (w := [y]) (w' := [y]) (Eqv.refl F _) ih
    refine Eqv.trans (v := y :: x :: u) h1 ?_
    have hf := h y List.mem_cons_self
    have hne : x ≠ y := fun e => by subst e; rw [F.irr] at hf; cases hf
    have e : take F x (y :: x :: u) = some (y :: u) := by
      rw [take_cons_of hne, if_pos hf, take_hd]; rfl
    exact take_eqv e
theorem idl_eqv : ∀ {w : List Nat} {m : List Bool}, Idl F w m → Eqv F w (kept w m ++ left w m)
  | [], [], _ => Eqv.refl F _
  | x :: w, true :: m, h => Eqv.append (w := [x]) (w' := [x]) (Eqv.refl F _) (idl_eqv h.1)
  | x :: w, false :: m, h => by
    have ih := idl_eqv h.1
    have h1 : Eqv F (x :: w) (x :: (kept w m ++ left w m)) := Eqv.append (w := [x]) (w' := [x]) (Eqv.refl F _) ih
    refine h1.trans ?_
    show Eqv F (x :: (kept w m ++ left w m)) (kept w m ++ x :: left w m)
    have h2 := (free_front (F := F) (h.2 rfl)).symm
    have h3 := Eqv.append h2 (Eqv.refl F (left w m))
    rw [List.append_assoc] at h3
    exact h3
theorem take_kept {a x : Nat} {w : List Nat} {m : List Bool} (h : Idl F w m) (ht : (take F a (kept w m)).isSome = true) : (take F a w).isSome = true := by
  rw [take_isSome_resp (idl_eqv h)]
  exact take_append_isSome.mpr (.inl ht)
theorem idl_nf : ∀ {w : List Nat} {m : List Bool}, Nf F w → Idl F w m → Nf F (kept w m)
  | [], [], h, _ => h
  | x :: w, true :: m, h, hi => by
    have hc := nf_cons.mp h
    show Nf F (x :: kept w m)
    refine nf_cons.mpr ⟨idl_nf hc.1 hi.1, fun a ha => hc.2 a ?_⟩
    have hi' : Idl F (x :: w) (true :: m) := hi
    exact take_kept (x := x) hi' ha
  | x :: w, false :: m, h, hi => by
    show Nf F (kept w m)
    exact idl_nf (nf_cons.mp h).1 hi.1
theorem kept_inj : ∀ {w : List Nat} {m m' : List Bool}, Idl F w m → Idl F w m' → kept w m = kept w m' → m = m'
  | [], [], [], _, _, _ => rfl
  | [], [], _ :: _, _, h, _ => h.elim
  | [], _ :: _, _, h, _, _ => h.elim
  | x :: w, [], _, h, _, _ => h.elim
  | x :: w, _ :: _, [], _, h, _ => h.elim
  | x :: w, true :: m, true :: m', h, h', e => by
    have e : x :: kept w m = x :: kept w m' := e
    injection e with _ e
    rw [kept_inj h.1 h'.1 e]
  | x :: w, false :: m, false :: m', h, h', e => by rw [kept_inj h.1 h'.1 e]
  | x :: w, true :: m, false :: m', h, h', e => by
    have e : x :: kept w m = kept w m' := e
    have := h'.2 rfl x (by rw [← e]; exact List.mem_cons_self)
    rw [F.irr] at this; cases this
  | x :: w, false :: m, true :: m', h, h', e => by
    have e : kept w m = x :: kept w m' := e
    have := h.2 rfl x (by rw [e]; exact List.mem_cons_self)
    rw [F.irr] at this; cases this
/-- every beginning is kept by a mask -/
theorem idl_all : ∀ {w u r : List Nat}, Eqv F w (u ++ r) → ∃ m, Idl F w m ∧ Eqv F (kept w m) u
  | [], u, r, h => by
    have := h.length
    rw [List.length_append, List.length_nil] at this
    refine ⟨[], trivial, ?_⟩
    rw [List.length_eq_zero_iff.mp (show u.length = 0 by omega)]
    exact Eqv.refl F _
  | x :: w, u, r, h => by
    have ht : (take F x (u ++ r)).isSome = true := by
      rw [← take_isSome_resp h, take_hd]; rfl
    by_cases hx : (take F x u).isSome = true
    · obtain ⟨u', hu'⟩ := Option.isSome_iff_exists.mp hx
      have e := take_eqv hu'
      have h2 : Eqv F ([x] ++ w) ([x] ++ (u' ++ r)) := h.trans (show Eqv F (u ++ r) ((x :: u') ++ r) from Eqv.append e (Eqv.refl F r))
      obtain ⟨m, hm, hk⟩ := idl_all (w := w) (u := u') (r := r) (Eqv.cancel_left h2)
      refine ⟨true :: m, ⟨hm, fun z => by cases z⟩, ?_⟩
      show Eqv F (x :: kept w m) u
      exact (Eqv.append (w := [x]) (w' := [x]) (Eqv.refl F _) hk).trans e.symm
    · rcases take_append_isSome.mp ht with z | ⟨h1, h2⟩
      · exact absurd z hx
      · obtain ⟨r', hr'⟩ := Option.isSome_iff_exists.mp h2
        have e := take_eqv hr'
        have h3 : Eqv F (u ++ r) (u ++ ([x] ++ r')) := Eqv.append (Eqv.refl F u) e
        have h4 : Eqv F (u ++ [x]) ([x] ++ u) := free_front h1
        have h5 : Eqv F ([x] ++ w) ([x] ++ (u ++ r')) := by
          refine h.trans (h3.trans ?_)
          rw [← List.append_assoc, ← List.append_assoc]
          exact Eqv.append h4 (Eqv.refl F _)
        obtain ⟨m, hm, hk⟩ := idl_all (w := w) (u := u) (r := r') (Eqv.cancel_left h5)
        refine ⟨false :: m, ⟨hm, fun _ y hy => h1 y (hk.mem.mp hy)⟩, hk⟩
/-- beginnings of a normal word, by masks -/
theorem begins_iff {w u : List Nat} (hw : Nf F w) : (Nf F u ∧ (behind F u w).isSome = true) ↔ ∃ m, Idl F w m ∧ kept w m = u := by
  constructor
  · rintro ⟨h1, h2⟩
    obtain ⟨r, hr⟩ := Option.isSome_iff_exists.mp h2
    obtain ⟨m, hm, hk⟩ := idl_all (behind_some.mp hr).2
    exact ⟨m, hm, (idl_nf hw hm).eq h1 hk⟩
  · rintro ⟨m, hm, rfl⟩
    refine ⟨idl_nf hw hm, ?_⟩
    have : behind F (kept w m) w = some (lst F (left w m)) := behind_some.mpr ⟨Nf.lst _, (idl_eqv hm).trans (Eqv.append (Eqv.refl F _) (lst_eqv _).symm)⟩
    rw [this]
    rfl
end Tr
set_option linter.all false
/-! M3: beginnings by bits; all beginnings in order. -/
namespace Tr
variable {F : Fr}
def mk : Nat → Nat → List Bool
  | 0, _ => []
  | n + 1, b => b.testBit 0 :: mk n (b / 2)
theorem mk_len : ∀ (n b : Nat), (mk n b).length = n
  | 0, _ => rfl
  | n + 1, b => by rw [mk, List.length_cons, mk_len]
theorem mk_inj : ∀ {n b c : Nat}, b < 2 ^ n → c < 2 ^ n → mk n b = mk n c → b = c
  | 0, b, c, h, h', _ => by omega
  | n + 1, b, c, h, h', e => by
    unfold mk at e
    injection e with e1 e2
    have := mk_inj (n := n) (b := b / 2) (c := c / 2) (by omega) (by omega) e2
    rw [Nat.testBit_zero, Nat.testBit_zero] at e1
    have : b % 2 = c % 2 := by
      by_cases q : b % 2 = 1
      · by_cases q' : c % 2 = 1
        · omega
        · simp [q, q'] at e1
      · by_cases q' : c % 2 = 1
        · simp [q, q'] at e1
        · omega
    omega
/-- down to what is tied -/
def Dn (F : Fr) (w : List Nat) (b : Nat) : Prop := ∀ i j, i < j → j < w.length → b.testBit j = true → F.free (w.getD i 0) (w.getD j 0) = false → b.testBit i = true
theorem kept_mem {x : Nat} : ∀ {w : List Nat} {b : Nat}, x ∈ kept w (mk w.length b) ↔ ∃ j, j < w.length ∧ b.testBit j = true ∧ w.getD j 0 = x
  | [], b => by simp [kept, mk]
  | y :: w, b => by
    have ih := kept_mem (x := x) (w := w) (b := b / 2)
    have e : x ∈ kept (y :: w) (mk (y :: w).length b) ↔ (b.testBit 0 = true ∧ y = x) ∨ x ∈ kept w (mk w.length (b / 2)) := by
      show x ∈ (if b.testBit 0 then y :: kept w (mk w.length (b / 2)) else kept w (mk w.length (b / 2))) ↔ _
      cases b.testBit 0 <;> simp [eq_comm]
    rw [e, ih]
    constructor
    · rintro (⟨h1, h2⟩ | ⟨j, h1, h2, h3⟩)
      · exact ⟨0, by simp, h1, h2⟩
      · exact ⟨j + 1, by simpa using h1, by rw [Nat.testBit_succ]; exact h2, h3⟩
    · rintro ⟨j, h1, h2, h3⟩
      cases j with
      | zero => exact .inl ⟨h2, h3⟩
      | succ j => exact .inr ⟨j, by simpa using h1, by rw [Nat.testBit_succ] at h2; exact h2, h3⟩
theorem idl_dn : ∀ {w : List Nat} {b : Nat}, Idl F w (mk w.length b) ↔ Dn F w b
  | [], b => ⟨fun _ i j _ h => by simp at h, fun _ => trivial⟩
  | x :: w, b => by
    have ih := idl_dn (w := w) (b := b / 2)
    show (Idl F w (mk w.length (b / 2)) ∧ (b.testBit 0 = false → ∀ y ∈ kept w (mk w.length (b / 2)), F.free x y = true)) ↔ _
    rw [ih]
    constructor
    · rintro ⟨h1, h2⟩ i j hij hj hb hf
      cases j with
      | zero => omega
      | succ j =>
        rw [Nat.testBit_succ] at hb
        have hj : j < w.length := by simpa using hj
        cases i with
        | zero =>
          cases q : b.testBit 0 with
          | true => rfl
          | false =>
            have := h2 q _ (kept_mem.mpr ⟨j, hj, hb, rfl⟩)
            have hf : F.free x (w.getD j 0) = false := hf
            rw [this] at hf; cases hf
        | succ i =>
          rw [Nat.testBit_succ]
          exact h1 i j (by omega) hj hb hf
    · intro h
      refine ⟨fun i j hij hj hb hf => ?_, fun hb0 y hy => ?_⟩
      · have := h (i + 1) (j + 1) (by omega) (by simpa using hj) (by rw [Nat.testBit_succ]; exact hb) hf
        rw [Nat.testBit_succ] at this
        exact this
      · obtain ⟨j, hj, hb, rfl⟩ := kept_mem.mp hy
        cases q : F.free x (w.getD j 0) with
        | true => rfl
        | false =>
          have := h 0 (j + 1) (by omega) (by simpa using hj) (by rw [Nat.testBit_succ]; exact hb) q
          rw [hb0] at this; cases this
/-- how many are kept -/
def pc (n b : Nat) : Nat := (List.range n).countP fun i => b.testBit i
theorem kept_len : ∀ (w : List Nat) (b : Nat), (kept w (mk w.length b)).length = pc w.length b
  | [], b => rfl
  | x :: w, b => by
    have ih := kept_len w (b / 2)
    show (if b.testBit 0 then x :: kept w (mk w.length (b / 2)) else kept w (mk w.length (b / 2))).length = pc (w.length + 1) b
    unfold pc at ih ⊢
    rw [List.range_succ_eq_map, List.countP_cons, List.countP_map]
    have e : ((fun i => b.testBit i) ∘ Nat.succ) = fun i => (b / 2).testBit i := by
      funext i; exact Nat.testBit_succ ..
    rw [e, ← ih]
    cases b.testBit 0 <;> simp
theorem countP_add {p q : Nat → Bool} {a : Nat} (hp : p a = false) (hq : ∀ i, q i = (p i || decide (i = a))) : ∀ n : Nat, (List.range n).countP q = (List.range n).countP p + (if a < n then 1 else 0)
  | 0 => by simp
  | n + 1 => by
    rw [List.range_succ, List.countP_append, List.countP_append, countP_add hp hq n, List.countP_singleton, List.countP_singleton, hq n]
    by_cases h : n = a
    · subst h
      simp [hp]
    · by_cases h2 : a < n
      · have : a < n + 1 := by omega
        simp [h, h2, this]
        omega
      · have : ¬ a < n + 1 := by omega
        simp [h, h2, this]
theorem testBit_or_one (b a i : Nat) : (b ||| 1 <<< a).testBit i = (b.testBit i || decide (i = a)) := by
  rw [Nat.testBit_or, Nat.one_shiftLeft, Nat.testBit_two_pow]
  congr 1
  exact decide_eq_decide.mpr eq_comm
theorem pc_or {n b a : Nat} (ha : a < n) (hb : b.testBit a = false) : pc n (b ||| 1 <<< a) = pc n b + 1 := by
  unfold pc
  rw [countP_add (p := fun i => b.testBit i) (a := a) hb (fun i => testBit_or_one b a i), if_pos ha]
/-- the bits tied below a place -/
def tb (F : Fr) (w : List Nat) (j : Nat) : Nat := (((List.range j).filter fun i => !F.free (w.getD i 0) (w.getD j 0)).map fun i => 1 <<< i).sum
theorem sum_bits (p : Nat → Bool) : ∀ (n : Nat), (((List.range n).filter p).map fun i => 1 <<< i).sum < 2 ^ n ∧ ∀ i, (((List.range n).filter p).map fun i => 1 <<< i).sum.testBit i = (decide (i < n) && p i)
  | 0 => ⟨by simp, fun i => by simp⟩
  | n + 1 => by
    obtain ⟨h1, h2⟩ := sum_bits p n
    have e : (((List.range (n + 1)).filter p).map fun i => 1 <<< i).sum = (((List.range n).filter p).map fun i => 1 <<< i).sum + (if p n then 2 ^ n else 0) := by
      rw [List.range_succ, List.filter_append, List.map_append, List.sum_append]
      cases q : p n <;> simp [List.filter, q, Nat.one_shiftLeft]
    rw [e]
    generalize hX : (((List.range n).filter p).map fun i => 1 <<< i).sum = X at *
    cases q : p n with
    | false =>
      simp only [Bool.false_eq_true, if_false, Nat.add_zero]
      refine ⟨by rw [Nat.pow_succ]; omega, fun i => ?_⟩
      rw [h2 i]
      by_cases hi : i < n
      · have : i < n + 1 := by omega
        simp [hi, this]
      · by_cases hi' : i = n
        · subst hi'; simp [q]
        · have : ¬ i < n + 1 := by omega
          simp [hi, this]
    | true =>
      simp only [if_true]
      refine ⟨by rw [Nat.pow_succ]; omega, fun i => ?_⟩
      rw [Nat.add_comm]
      rcases Nat.lt_trichotomy i n with hi | hi | hi
      · rw [Nat.testBit_two_pow_add_gt hi, h2 i]
        have : i < n + 1 := by omega
        simp [hi, this]
      · subst hi
        rw [Nat.testBit_two_pow_add_eq, h2 i]
        simp [q]
      · have hz : 2 ^ n + X < 2 ^ i := by
          have : 2 ^ (n + 1) ≤ 2 ^ i := Nat.pow_le_pow_right (by decide) hi
          rw [Nat.pow_succ] at this
          omega
        rw [Nat.testBit_lt_two_pow hz]
        have : ¬ i < n + 1 := by omega
        simp [this]
theorem tb_bit (w : List Nat) (j i : Nat) : (tb F w j).testBit i = (decide (i < j) && !F.free (w.getD i 0) (w.getD j 0)) := (sum_bits (fun i => !F.free (w.getD i 0) (w.getD j 0)) j).2 i
theorem and_eq_iff (x b : Nat) : x &&& b = x ↔ ∀ i, x.testBit i = true → b.testBit i = true := by
  constructor
  · intro h i hi
    have := congrArg (fun z => z.testBit i) h
    simp only [Nat.testBit_and, hi, Bool.true_and] at this
    exact this
  · intro h
    apply Nat.eq_of_testBit_eq
    intro i
    rw [Nat.testBit_and]
    cases q : x.testBit i with
    | false => rfl
    | true => rw [h i q]; rfl
theorem bit_free (b a : Nat) : (b >>> a) &&& 1 = 0 ↔ b.testBit a = false := by
  rw [Nat.testBit, Nat.and_comm, Nat.one_and_eq_mod_two]
  constructor
  · intro h; simp [h]
  · intro h; simp at h; omega
/-- one bit more -/
def nb (bl : List Nat) (b : Nat) : List Nat := ((List.range bl.length).filter fun a => decide ((b >>> a) &&& 1 = 0) && decide (bl.getD a 0 &&& b = bl.getD a 0)).map fun a => b ||| 1 <<< a
def addk (ks : List Nat) (b : Nat) : List Nat := if ks.contains b then ks else ks ++ [b]
def tbs (F : Fr) (w : List Nat) : List Nat := (List.range w.length).map (tb F w)
def lvl (bl : List Nat) : Nat → List Nat
  | 0 => [0]
  | k + 1 => ((lvl bl k).flatMap (nb bl)).foldl addk []
theorem addk_mem {ks : List Nat} {b x : Nat} : x ∈ addk ks b ↔ x ∈ ks ∨ x = b := by
  unfold addk
  split
  · rename_i h
    rw [List.contains_iff_mem] at h
    constructor
    · exact .inl
    · rintro (h' | rfl) <;> assumption
  · simp
theorem addk_nd {ks : List Nat} {b : Nat} (h : ks.Nodup) : (addk ks b).Nodup := by
  unfold addk
  split
  · exact h
  · rename_i q
    rw [List.contains_iff_mem] at q
    rw [List.nodup_append]
    refine ⟨h, by simp, fun x hx y hy => ?_⟩
    rw [List.mem_singleton.mp hy]
    intro e; subst e; exact q hx
theorem dd_mem {x : Nat} : ∀ {l ks : List Nat}, x ∈ l.foldl addk ks ↔ x ∈ ks ∨ x ∈ l
  | [], ks => by simp
  | b :: l, ks => by
    rw [List.foldl_cons, dd_mem, addk_mem, List.mem_cons]
    constructor
    · rintro ((h | h) | h)
      · exact .inl h
      · exact .inr (.inl h)
      · exact .inr (.inr h)
    · rintro (h | h | h)
      · exact .inl (.inl h)
      · exact .inl (.inr h)
      · exact .inr h
theorem dd_nd : ∀ {l ks : List Nat}, ks.Nodup → (l.foldl addk ks).Nodup
  | [], _, h => h
  | b :: l, ks, h => dd_nd (l := l) (addk_nd h)
theorem lvl_nd (bl : List Nat) : ∀ k, (lvl bl k).Nodup
  | 0 => by simp [lvl]
  | k + 1 => dd_nd List.nodup_nil
theorem tbs_len (w : List Nat) : (tbs F w).length = w.length := by simp [tbs]
theorem tbs_at {w : List Nat} {a : Nat} (h : a < w.length) : (tbs F w).getD a 0 = tb F w a := by
  unfold tbs
  rw [List.getD_eq_getElem?_getD, List.getElem?_map, List.getElem?_range h]
  rfl
theorem nb_mem {w : List Nat} {b c : Nat} : c ∈ nb (tbs F w) b ↔ ∃ a, a < w.length ∧ b.testBit a = false ∧ (∀ i, i < a → F.free (w.getD i 0) (w.getD a 0) = false → b.testBit i = true) ∧ c = b ||| 1 <<< a := by
  unfold nb
  rw [List.mem_map]
  constructor
  · rintro ⟨a, h, rfl⟩
    obtain ⟨h1, h2⟩ := List.mem_filter.mp h
    have h1 := List.mem_range.mp h1
    rw [tbs_len] at h1
    rw [Bool.and_eq_true, decide_eq_true_eq, decide_eq_true_eq, tbs_at h1, and_eq_iff, bit_free] at h2
    refine ⟨a, h1, h2.1, fun i hi hf => h2.2 i ?_, rfl⟩
    rw [tb_bit]
    simp [hi]; simpa using hf
  · rintro ⟨a, h1, h2, h3, rfl⟩
    refine ⟨a, List.mem_filter.mpr ⟨List.mem_range.mpr (by rw [tbs_len]; exact h1), ?_⟩, rfl⟩
    rw [Bool.and_eq_true, decide_eq_true_eq, decide_eq_true_eq, tbs_at h1, and_eq_iff, bit_free]
    refine ⟨h2, fun i hi => ?_⟩
    rw [tb_bit, Bool.and_eq_true, decide_eq_true_eq, Bool.not_eq_true'] at hi
    exact h3 i hi.1 hi.2
theorem exists_top (p : Nat → Bool) : ∀ n : Nat, 0 < (List.range n).countP p → ∃ a, a < n ∧ p a = true ∧ ∀ i, i < n → p i = true → i ≤ a
  | 0, h => by simp at h
  | n + 1, h => by
    by_cases q : p n = true
    · exact ⟨n, by omega, q, fun i hi _ => by omega⟩
    · rw [List.range_succ, List.countP_append, List.countP_singleton, if_neg q] at h
      obtain ⟨a, h1, h2, h3⟩ := exists_top p n (by omega)
      exact ⟨a, by omega, h2, fun i hi hp => by
        by_cases e : i = n
        · subst e; exact absurd hp q
        · exact h3 i (by omega) hp⟩
theorem lvl_iff (w : List Nat) : ∀ (k b : Nat), b ∈ lvl (tbs F w) k ↔ b < 2 ^ w.length ∧ Dn F w b ∧ pc w.length b = k
  | 0, b => by
    rw [lvl, List.mem_singleton]
    constructor
    · rintro rfl
      refine ⟨Nat.pow_pos (by decide), fun i j _ _ h => by simp at h, ?_⟩
      unfold pc
      rw [List.countP_eq_zero]
      simp
    · rintro ⟨h1, _, h3⟩
      apply Nat.eq_of_testBit_eq
      intro i
      rw [Nat.zero_testBit]
      by_cases hi : i < w.length
      · have := List.countP_eq_zero.mp h3 i (List.mem_range.mpr hi)
        simpa using this
      · exact Nat.testBit_lt_two_pow (Nat.lt_of_lt_of_le h1 (Nat.pow_le_pow_right (by decide) (by omega)))
  | k + 1, c => by
    rw [lvl, dd_mem, List.mem_flatMap]
    simp only [List.not_mem_nil, false_or]
    constructor
    · rintro ⟨b, hb, hc⟩
      obtain ⟨h1, h2, h3⟩ := (lvl_iff w k b).mp hb
      obtain ⟨a, ha, h4, h5, rfl⟩ := nb_mem.mp hc
      refine ⟨?_, ?_, by rw [pc_or ha h4, h3]⟩
      · apply Nat.or_lt_two_pow h1
        rw [Nat.one_shiftLeft]
        exact Nat.pow_lt_pow_right (by decide) ha
      · intro i j hij hj hb' hf
        rw [testBit_or_one, Bool.or_eq_true] at hb' ⊢
        rcases hb' with hb' | hb'
        · exact .inl (h2 i j hij hj hb' hf)
        · have : j = a := of_decide_eq_true hb'
          subst this
          exact .inl (h5 i hij hf)
    · rintro ⟨h1, h2, h3⟩
      obtain ⟨a, ha, hat, hmax⟩ := exists_top (fun i => c.testBit i) w.length (by unfold pc at h3; omega)
      have hbit : ∀ i, (c ^^^ 1 <<< a).testBit i = (c.testBit i && decide (i ≠ a)) := fun i => by
        rw [Nat.testBit_xor, Nat.one_shiftLeft, Nat.testBit_two_pow]
        by_cases e : i = a
        · subst e; simp [hat]
        · have : ¬ a = i := fun z => e z.symm
          simp [e, this]
      have hb0 : (c ^^^ 1 <<< a).testBit a = false := by rw [hbit]; simp
      have hc : c = (c ^^^ 1 <<< a) ||| 1 <<< a := by
        apply Nat.eq_of_testBit_eq
        intro i
        rw [testBit_or_one, hbit]
        by_cases e : i = a
        · subst e; simp [hat]
        · simp [e]
      have hd : Dn F w (c ^^^ 1 <<< a) := fun i j hij hj hb hf => by
        rw [hbit, Bool.and_eq_true] at hb
        rw [hbit, Bool.and_eq_true]
        refine ⟨h2 i j hij hj hb.1 hf, decide_eq_true ?_⟩
        have := hmax j hj hb.1
        omega
      refine ⟨c ^^^ 1 <<< a, (lvl_iff w k _).mpr ⟨?_, hd, ?_⟩, nb_mem.mpr ⟨a, ha, hb0, fun i hi hf => ?_, hc⟩⟩
      · apply Nat.xor_lt_two_pow h1
        rw [Nat.one_shiftLeft]
        exact Nat.pow_lt_pow_right (by decide) ha
      · have := pc_or ha hb0
        rw [← hc, h3] at this
        omega
      · rw [hbit, Bool.and_eq_true]
        exact ⟨h2 i a hi ha hat hf, decide_eq_true (by omega)⟩
/-- the beginnings of a length, in order -/
def begK (F : Fr) (n : Nat) (w : List Nat) (k : Nat) : List (List Nat) := (nfs F n k).filter fun u => (behind F u w).isSome
theorem begK_sorted (n : Nat) (w : List Nat) (k : Nat) : (begK F n w k).Pairwise fun u v => wlt u v = true := List.Pairwise.filter _ (nfs_sorted n k)
theorem lvl_perm {n : Nat} {w : List Nat} (hw : Nf F w) (hn : ∀ a ∈ w, a < n) (k : Nat) : ((lvl (tbs F w) k).map fun b => kept w (mk w.length b)).Perm (begK F n w k) := by
  refine (List.perm_ext_iff_of_nodup (nodup_map ?_ (lvl_nd _ k)) (nodup_filter (nfs_nodup n k))).mpr fun u => ?_
  · intro x hx y hy e
    obtain ⟨x1, x2, _⟩ := (lvl_iff w k x).mp hx
    obtain ⟨y1, y2, _⟩ := (lvl_iff w k y).mp hy
    exact mk_inj x1 y1 (kept_inj (idl_dn.mpr x2) (idl_dn.mpr y2) e)
  · rw [List.mem_map]
    constructor
    · rintro ⟨b, hb, rfl⟩
      obtain ⟨b1, b2, b3⟩ := (lvl_iff w k b).mp hb
      obtain ⟨h1, h2⟩ := (begins_iff (u := kept w (mk w.length b)) hw).mpr ⟨_, idl_dn.mpr b2, rfl⟩
      refine List.mem_filter.mpr ⟨mem_nfs.mpr ⟨by rw [kept_len, b3], fun a ha => ?_, h1⟩, h2⟩
      obtain ⟨j, hj, _, rfl⟩ := kept_mem.mp ha
      rw [List.getD_eq_getElem?_getD, List.getElem?_eq_getElem hj]
      exact hn _ (List.getElem_mem hj)
    · intro h
      obtain ⟨h1, h2⟩ := List.mem_filter.mp h
      obtain ⟨l1, l2, l3⟩ := mem_nfs.mp h1
      obtain ⟨m, hm, rfl⟩ := (begins_iff hw).mp ⟨l3, h2⟩
      obtain ⟨b, hb, rfl⟩ : ∃ b, b < 2 ^ w.length ∧ m = mk w.length b := by
        clear h h1 h2 l1 l2 l3 hw hn
        induction w generalizing m with
        | nil => cases m with
          | nil => exact ⟨0, by simp, rfl⟩
          | cons _ _ => exact hm.elim
        | cons x w ih => cases m with
          | nil => exact hm.elim
          | cons c m =>
            obtain ⟨b, hb, rfl⟩ := ih _ hm.1
            refine ⟨2 * b + (if c then 1 else 0), ?_, ?_⟩
            · rw [List.length_cons, Nat.pow_succ]
              split <;> omega
            · show c :: mk w.length b = (2 * b + (if c then 1 else 0)).testBit 0 :: mk w.length ((2 * b + (if c then 1 else 0)) / 2)
              have e : (2 * b + (if c then 1 else 0)) / 2 = b := by split <;> omega
              rw [e, Nat.testBit_zero]
              congr 1
              cases c <;> simp
      refine ⟨b, (lvl_iff w k b).mpr ⟨hb, idl_dn.mp hm, ?_⟩, rfl⟩
      rw [← kept_len, l1]
end Tr
set_option linter.all false
/-! M4: free sets; the numbers of normal words by signs. -/
namespace Tr
variable {F : Fr}
abbrev Asc (u : List Nat) : Prop := u.Pairwise (· < ·)
def setP (p : Nat → Nat → Bool) (l : Nat) (fs : List (List Nat)) : List (List Nat) := fs ++ (fs.filter fun own => own.all fun x => p l x).map (· ++ [l])
def setsP (p : Nat → Nat → Bool) : List Nat → List (List Nat) → List (List Nat)
  | [], fs => fs
  | l :: w, fs => setsP p w (setP p l fs)
theorem setsP_snoc (p : Nat → Nat → Bool) : ∀ (w : List Nat) (l : Nat) (fs : List (List Nat)), setsP p (w ++ [l]) fs = setP p l (setsP p w fs)
  | [], _, _ => rfl
  | a :: w, l, fs => setsP_snoc p w l (setP p a fs)
theorem setP_mem {p : Nat → Nat → Bool} {l : Nat} {fs : List (List Nat)} {u : List Nat} : u ∈ setP p l fs ↔ u ∈ fs ∨ ∃ v, v ∈ fs ∧ (∀ x ∈ v, p l x = true) ∧ u = v ++ [l] := by
  unfold setP
  rw [List.mem_append, List.mem_map]
  simp only [List.mem_filter, List.all_eq_true]
  constructor
  · rintro (h | ⟨v, ⟨h1, h2⟩, rfl⟩)
    · exact .inl h
    · exact .inr ⟨v, h1, h2, rfl⟩
  · rintro (h | ⟨v, h1, h2, rfl⟩)
    · exact .inl h
    · exact .inr ⟨v, ⟨h1, h2⟩, rfl⟩
theorem rev_ind {P : List Nat → Prop} (h0 : P []) (h1 : ∀ w l, P w → P (w ++ [l])) (w : List Nat) : P w := by
  have : ∀ v : List Nat, P v.reverse := fun v => by
    induction v with
    | nil => exact h0
    | cons x v ih => rw [List.reverse_cons]; exact h1 _ _ ih
  have := this w.reverse
  rwa [List.reverse_reverse] at this
theorem asc_snoc {w : List Nat} {l : Nat} : Asc (w ++ [l]) ↔ Asc w ∧ ∀ x ∈ w, x < l := by
  unfold Asc
  rw [List.pairwise_append]
  simp
theorem setsP_mem {p : Nat → Nat → Bool} : ∀ (w : List Nat), Asc w → ∀ u, u ∈ setsP p w [[]] ↔ Asc u ∧ (∀ x ∈ u, x ∈ w) ∧ u.Pairwise fun x y => p y x = true := by
  refine fun w => rev_ind (P := fun w => Asc w → ∀ u, u ∈ setsP p w [[]] ↔ Asc u ∧ (∀ x ∈ u, x ∈ w) ∧ u.Pairwise fun x y => p y x = true) ?_ ?_ w
  · intro _ u
    show u ∈ [[]] ↔ _
    rw [List.mem_singleton]
    constructor
    · rintro rfl; exact ⟨List.Pairwise.nil, by simp, List.Pairwise.nil⟩
    · rintro ⟨_, h, _⟩
      exact List.eq_nil_iff_forall_not_mem.mpr fun x hx => by simpa using h x hx
  · intro w l ih hwl u
    obtain ⟨hw, hl⟩ := asc_snoc.mp hwl
    clear hwl
    rw [setsP_snoc, setP_mem, ih hw]
    constructor
    · rintro (⟨h1, h2, h3⟩ | ⟨v, hv, h4, rfl⟩)
      · exact ⟨h1, fun x hx => List.mem_append_left _ (h2 x hx), h3⟩
      · obtain ⟨h1, h2, h3⟩ := (ih hw v).mp hv
        refine ⟨asc_snoc.mpr ⟨h1, fun x hx => hl x (h2 x hx)⟩, fun x hx => ?_, ?_⟩
        · rcases List.mem_append.mp hx with hx | hx
          · exact List.mem_append_left _ (h2 x hx)
          · exact List.mem_append_right _ hx
        · rw [List.pairwise_append]
          refine ⟨h3, by simp, fun x hx y hy => ?_⟩
          rw [List.mem_singleton.mp hy]; exact h4 x hx
    · rintro ⟨h1, h2, h3⟩
      by_cases hlu : l ∈ u
      · right
        rcases List.eq_nil_or_concat u with rfl | ⟨v, y, rfl⟩
        · simp at hlu
        · rw [List.concat_eq_append] at h1 h2 h3 hlu
          rw [List.concat_eq_append]
          obtain ⟨a1, a2⟩ := asc_snoc.mp h1
          have hy : y = l := by
            rcases List.mem_append.mp hlu with q | q
            · have e1 := a2 l q
              have := h2 y (by simp)
              rcases List.mem_append.mp this with q' | q'
              · have := hl y q'; omega
              · exact List.mem_singleton.mp q'
            · exact (List.mem_singleton.mp q).symm
          subst hy
          rw [List.pairwise_append] at h3
          refine ⟨v, (ih hw v).mpr ⟨a1, fun x hx => ?_, h3.1⟩, fun x hx => h3.2.2 x hx y (by simp), rfl⟩
          rcases List.mem_append.mp (h2 x (List.mem_append_left _ hx)) with q | q
          · exact q
          · have := a2 x hx; rw [List.mem_singleton.mp q] at this; omega
      · refine .inl ⟨h1, fun x hx => ?_, h3⟩
        rcases List.mem_append.mp (h2 x hx) with q | q
        · exact q
        · rw [List.mem_singleton.mp q] at hx; exact absurd hx hlu
theorem setsP_nodup {p : Nat → Nat → Bool} : ∀ (w : List Nat), Asc w → (setsP p w [[]]).Nodup := by
  refine fun w => rev_ind (P := fun w => Asc w → (setsP p w [[]]).Nodup) ?_ ?_ w
  · intro _; simp [setsP]
  · intro w l ih hw
    obtain ⟨hw, hl⟩ := asc_snoc.mp hw
    rw [setsP_snoc]
    unfold setP
    rw [List.nodup_append]
    refine ⟨ih hw, nodup_map (fun x _ y _ e => List.append_cancel_right e) (nodup_filter (ih hw)), fun x hx y hy e => ?_⟩
    obtain ⟨v, _, rfl⟩ := List.mem_map.mp hy
    subst e
    have := ((setsP_mem w hw _).mp hx).2.1 l (by simp)
    have := hl l this
    omega
def sg (k : Nat) : Int := if k % 2 = 0 then 1 else -1
theorem sg_succ (k : Nat) : sg (k + 1) = - sg k := by
  unfold sg
  by_cases h : k % 2 = 0
  · rw [if_pos h, if_neg (by omega)]
  · rw [if_neg h, if_pos (by omega)]; rfl
theorem sum_map_neg {α : Type} (f : α → Int) : ∀ l : List α, (l.map fun x => - f x).sum = - (l.map f).sum
  | [] => rfl
  | x :: l => by rw [List.map_cons, List.map_cons, List.sum_cons, List.sum_cons, sum_map_neg f l]; omega
/-- sets of some letters, with a sign: nothing is left -/
theorem alt_sum : ∀ (w : List Nat), ((setsP (fun _ _ => true) w [[]]).map fun u => sg u.length).sum = if w = [] then 1 else 0 := by
  refine fun w => rev_ind (P := fun w => ((setsP (fun _ _ => true) w [[]]).map fun u => sg u.length).sum = if w = [] then 1 else 0) rfl ?_ w
  intro w l _
  rw [setsP_snoc, if_neg (by simp)]
  unfold setP
  have e : ((setsP (fun _ _ => true) w [[]]).filter fun own => own.all fun x => true) = setsP (fun _ _ => true) w [[]] := List.filter_eq_self.mpr fun _ _ => by simp
  rw [e, List.map_append, List.sum_append, List.map_map]
  have e2 : ((fun u : List Nat => sg u.length) ∘ fun x => x ++ [l]) = fun u : List Nat => - sg u.length := by
    funext u
    show sg (u ++ [l]).length = _
    rw [List.length_append, List.length_singleton, sg_succ]
  rw [e2, sum_map_neg]
  omega
/-! ### first letters -/
theorem first_free {a b : Nat} {w : List Nat} (ha : (take F a w).isSome = true) (hb : (take F b w).isSome = true) (hne : a ≠ b) : F.free a b = true := by
  obtain ⟨r, hr⟩ := Option.isSome_iff_exists.mp ha
  rw [take_isSome_resp (take_eqv hr), take_cons_isSome] at hb
  rcases hb with h | h
  · exact absurd h.symm hne
  · rw [F.symm]; exact h.1
def firsts (F : Fr) (n : Nat) (w : List Nat) : List Nat := (List.range n).filter fun a => (take F a w).isSome
theorem firsts_asc (n : Nat) (w : List Nat) : Asc (firsts F n w) := List.Pairwise.filter _ List.pairwise_lt_range
theorem firsts_mem {n a : Nat} {w : List Nat} : a ∈ firsts F n w ↔ a < n ∧ (take F a w).isSome = true := by
  unfold firsts
  rw [List.mem_filter, List.mem_range]
/-- a free set -/
def FS (F : Fr) (u : List Nat) : Prop := Asc u ∧ u.Pairwise fun x y => F.free y x = true
theorem FS.tail {a : Nat} {u : List Nat} (h : FS F (a :: u)) : FS F u := ⟨(List.pairwise_cons.mp h.1).2, (List.pairwise_cons.mp h.2).2⟩
theorem asc_nf : ∀ {u : List Nat}, Asc u → Nf F u
  | [], _ => nf_nil
  | b :: u, h => by
    have hc := List.pairwise_cons.mp h
    refine nf_cons.mpr ⟨asc_nf hc.2, fun a ha => ?_⟩
    obtain ⟨r, hr⟩ := Option.isSome_iff_exists.mp ha
    rcases List.mem_cons.mp (take_mem hr) with rfl | m
    · exact Nat.le_refl _
    · exact Nat.le_of_lt (hc.1 a m)
theorem fs_begins : ∀ {u w : List Nat}, FS F u → (∀ x ∈ u, (take F x w).isSome = true) → (takes F u w).isSome = true
  | [], w, _, _ => rfl
  | a :: u, w, h, hx => by
    obtain ⟨r, hr⟩ := Option.isSome_iff_exists.mp (hx a List.mem_cons_self)
    unfold takes
    rw [hr]
    show (takes F u r).isSome = true
    refine fs_begins h.tail fun x m => ?_
    have h1 := hx x (List.mem_cons_of_mem _ m)
    rw [take_isSome_resp (take_eqv hr), take_cons_isSome] at h1
    rcases h1 with e | e
    · have := (List.pairwise_cons.mp h.1).1 x m; omega
    · exact e.2
theorem behind_isSome {u w : List Nat} : (behind F u w).isSome = (takes F u w).isSome := by
  unfold behind
  rw [Option.isSome_map]
theorem take_pf {x : Nat} : ∀ {u : List Nat}, (u.Pairwise fun x y => F.free y x = true) → x ∈ u → (take F x u).isSome = true
  | b :: u, h, m => by
    rw [take_cons_isSome]
    rcases List.mem_cons.mp m with e | m
    · exact .inl e
    · have hc := List.pairwise_cons.mp h
      exact .inr ⟨hc.1 x m, take_pf hc.2 m⟩
theorem begins_fs {u w : List Nat} (h : FS F u) : (behind F u w).isSome = true ↔ ∀ x ∈ u, (take F x w).isSome = true := by
  rw [behind_isSome]
  constructor
  · intro hs x hx
    obtain ⟨r, hr⟩ := Option.isSome_iff_exists.mp hs
    rw [take_isSome_resp (takes_eqv hr)]
    exact take_append_isSome.mpr (.inl (take_pf h.2 hx))
  · exact fs_begins h
/-- the free sets that begin w are all sets of its first letters -/
theorem sets_begin {n : Nat} {w : List Nat} : ((setsP F.free (List.range n) [[]]).filter fun u => (behind F u w).isSome).Perm (setsP (fun _ _ => true) (firsts F n w) [[]]) := by
  have ha : Asc (List.range n) := List.pairwise_lt_range
  refine (List.perm_ext_iff_of_nodup (nodup_filter (setsP_nodup _ ha)) (setsP_nodup _ (firsts_asc n w))).mpr fun u => ?_
  rw [List.mem_filter, setsP_mem _ ha, setsP_mem _ (firsts_asc n w)]
  constructor
  · rintro ⟨⟨h1, h2, h3⟩, h4⟩
    refine ⟨h1, fun x hx => firsts_mem.mpr ⟨List.mem_range.mp (h2 x hx), (begins_fs ⟨h1, h3⟩).mp h4 x hx⟩, h3.imp fun _ => rfl⟩
  · rintro ⟨h1, h2, _⟩
    have h3 : u.Pairwise fun x y => F.free y x = true := List.Pairwise.imp_of_mem (fun {a b} ma mb hab => first_free (firsts_mem.mp (h2 b mb)).2 (firsts_mem.mp (h2 a ma)).2 (by omega)) h1
    exact ⟨⟨h1, fun x hx => List.mem_range.mpr (firsts_mem.mp (h2 x hx)).1, h3⟩, (begins_fs ⟨h1, h3⟩).mpr fun x hx => (firsts_mem.mp (h2 x hx)).2⟩
theorem firsts_ne {n : Nat} {w : List Nat} (hw : w ≠ []) (hn : ∀ a ∈ w, a < n) : firsts F n w ≠ [] := by
  cases w with
  | nil => exact absurd rfl hw
  | cons a w =>
    intro h
    have : a ∈ firsts F n (a :: w) := firsts_mem.mpr ⟨hn a List.mem_cons_self, by rw [take_hd]; rfl⟩
    rw [h] at this
    cases this
/-! ### sums -/
theorem sum_perm {l l' : List Int} (h : l.Perm l') : l.sum = l'.sum := by
  induction h with
  | nil => rfl
  | cons x _ ih => rw [List.sum_cons, List.sum_cons, ih]
  | swap x y l => simp only [List.sum_cons]; omega
  | trans _ _ h1 h2 => exact h1.trans h2
theorem sum_add {α : Type} (f g : α → Int) : ∀ l : List α, (l.map fun x => f x + g x).sum = (l.map f).sum + (l.map g).sum
  | [] => rfl
  | x :: l => by rw [List.map_cons, List.map_cons, List.map_cons, List.sum_cons, List.sum_cons, List.sum_cons, sum_add f g l]; omega
theorem sum_zero {α : Type} {f : α → Int} : ∀ {l : List α}, (∀ x ∈ l, f x = 0) → (l.map f).sum = 0
  | [], _ => rfl
  | x :: l, h => by rw [List.map_cons, List.sum_cons, h x List.mem_cons_self, sum_zero fun y hy => h y (List.mem_cons_of_mem _ hy)]; rfl
theorem sum_swap {α β : Type} (f : α → β → Int) (l' : List β) : ∀ l : List α, (l.map fun x => (l'.map fun y => f x y).sum).sum = (l'.map fun y => (l.map fun x => f x y).sum).sum
  | [] => (sum_zero fun _ _ => rfl).symm
  | x :: l => by
    rw [List.map_cons, List.sum_cons, sum_swap f l' l, ← sum_add]
    congr 1
theorem sum_if {α : Type} (p : α → Bool) (c : Int) : ∀ l : List α, (l.map fun x => if p x then c else 0).sum = c * ((l.filter p).length : Int)
  | [] => by simp
  | x :: l => by
    rw [List.map_cons, List.sum_cons, sum_if p c l, List.filter_cons]
    cases q : p x with
    | true => simp only [if_true, List.length_cons]; rw [Int.natCast_add, Int.mul_add]; omega
    | false => simp
theorem sum_filter {α : Type} (p : α → Bool) (f : α → Int) : ∀ l : List α, (l.map fun x => if p x then f x else 0).sum = ((l.filter p).map f).sum
  | [] => rfl
  | x :: l => by
    rw [List.map_cons, List.sum_cons, sum_filter p f l, List.filter_cons]
    cases q : p x <;> simp
theorem map_sum_congr {α : Type} {f g : α → Int} : ∀ {l : List α}, (∀ x ∈ l, f x = g x) → (l.map f).sum = (l.map g).sum := fun {l} h => by
  rw [List.map_congr_left h]
def nN (F : Fr) (n k : Nat) : Int := ((nfs F n k).length : Nat)
/-- signs and numbers of normal words -/
theorem cf_sets (n k : Nat) (hk : 0 < k) : ((setsP F.free (List.range n) [[]]).map fun u => if u.length ≤ k then sg u.length * nN F n (k - u.length) else 0).sum = 0 := by
  have ha : Asc (List.range n) := List.pairwise_lt_range
  have e1 : ∀ u ∈ setsP F.free (List.range n) [[]], (if u.length ≤ k then sg u.length * nN F n (k - u.length) else 0) = ((nfs F n k).map fun t => if (behind F u t).isSome then sg u.length else 0).sum := fun u hu => by
    obtain ⟨h1, h2, h3⟩ := (setsP_mem _ ha u).mp hu
    rw [sum_if]
    by_cases hl : u.length ≤ k
    · rw [if_pos hl]
      have := (perm_behind (F := F) (n := n) (k := k) (m := k - u.length) (u := u) (by omega) fun a m => List.mem_range.mp (h2 a m)).length_eq
      rw [List.length_map] at this
      rw [this]
      rfl
    · rw [if_neg hl]
      have : (nfs F n k).filter (fun t => (behind F u t).isSome) = [] := List.filter_eq_nil_iff.mpr fun t ht hb => by
        obtain ⟨r, hr⟩ := Option.isSome_iff_exists.mp hb
        have := (behind_some.mp hr).2.length
        rw [(mem_nfs.mp ht).1, List.length_append] at this
        omega
      rw [this]
      simp
  rw [map_sum_congr e1, sum_swap]
  refine sum_zero fun t ht => ?_
  rw [sum_filter, sum_perm (List.Perm.map _ sets_begin), alt_sum, if_neg]
  obtain ⟨h1, h2, _⟩ := mem_nfs.mp ht
  exact firsts_ne (by rintro rfl; simp at h1; omega) h2
/-- by sizes -/
theorem by_sizes (f : Nat → Int) (D : Nat) : ∀ l : List Nat, (∀ x ∈ l, x ≤ D) → (l.map f).sum = ((List.range (D + 1)).map fun k => (l.count k : Int) * f k).sum
  | [], _ => (sum_zero fun k _ => by simp).symm
  | x :: l, h => by
    rw [List.map_cons, List.sum_cons, by_sizes f D l fun y hy => h y (List.mem_cons_of_mem _ hy)]
    have e : ∀ k ∈ List.range (D + 1), ((x :: l).count k : Int) * f k = (l.count k : Int) * f k + (if decide (k = x) then f x else 0) := fun k _ => by
      rw [List.count_cons]
      by_cases q : x = k
      · subst q
        simp only [beq_self_eq_true, if_true, decide_true, Int.natCast_add, Int.add_mul]
        omega
      · have q' : ¬ k = x := fun z => q z.symm
        have hb : (x == k) = false := by simpa using q
        simp [q', hb]
    rw [map_sum_congr e, sum_add, sum_if]
    have hx : ((List.range (D + 1)).filter fun k => decide (k = x)).length = 1 := by
      have hD := h x List.mem_cons_self
      rw [← List.countP_eq_length_filter]
      have h1 := List.nodup_iff_count.mp (List.nodup_range (n := D + 1)) x
      have h2 := List.count_pos_iff.mpr (List.mem_range.mpr (show x < D + 1 by omega))
      have e : (List.range (D + 1)).countP (fun k => decide (k = x)) = (List.range (D + 1)).count x := by
        rw [List.count]
        congr 1
      rw [e]
      omega
    rw [hx]
    omega
end Tr
set_option linter.all false
/-! M5: the greatest common beginning; above; free sets among these. -/
namespace Tr
variable {F : Fr}
def insN (x : Nat) : List Nat → List Nat
  | [] => [x]
  | y :: ys => if x < y then x :: y :: ys else if y < x then y :: insN x ys else y :: ys
def sdN : List Nat → List Nat
  | [] => []
  | x :: xs => insN x (sdN xs)
def okC (F : Fr) (u v : List Nat) (a : Nat) : Bool := (take F a u).isSome && (take F a v).isSome
def idC (F : Fr) (u v : List Nat) : List Nat := (List.range (sdN u).length).filter fun i => okC F u v ((sdN u).getD i 0)
def cmn (F : Fr) : Nat → List Nat → List Nat → List Nat
  | 0, _, _ => []
  | n + 1, u, v => match idC F u v with
    | [] => []
    | i :: _ => (sdN u).getD i 0 :: cmn F n ((take F ((sdN u).getD i 0) u).getD []) ((take F ((sdN u).getD i 0) v).getD [])
theorem insN_len (x : Nat) : ∀ w : List Nat, (insN x w).length ≤ w.length + 1
  | [] => by simp [insN]
  | y :: w => by
    unfold insN
    have := insN_len x w
    split
    · simp
    · split <;> simp <;> omega
theorem sdN_len : ∀ w : List Nat, (sdN w).length ≤ w.length
  | [] => by simp [sdN]
  | x :: w => by
    have := insN_len x (sdN w)
    have := sdN_len w
    rw [sdN, List.length_cons]
    omega
theorem insN_mem {x z : Nat} : ∀ {w : List Nat}, z ∈ insN x w ↔ z = x ∨ z ∈ w
  | [] => by simp [insN]
  | y :: w => by
    unfold insN
    split
    · simp
    · split
      · simp only [List.mem_cons, insN_mem (w := w)]
        constructor
        · rintro (h | h | h)
          · exact .inr (.inl h)
          · exact .inl h
          · exact .inr (.inr h)
        · rintro (h | h | h)
          · exact .inr (.inl h)
          · exact .inl h
          · exact .inr (.inr h)
      · have : x = y := by omega
        subst this
        simp
theorem sdN_mem {z : Nat} : ∀ {w : List Nat}, z ∈ sdN w ↔ z ∈ w
  | [] => by simp [sdN]
  | x :: w => by rw [sdN, insN_mem, sdN_mem (w := w), List.mem_cons]
theorem insN_asc {x : Nat} : ∀ {w : List Nat}, Asc w → Asc (insN x w)
  | [], _ => List.pairwise_singleton _ _
  | y :: w, h => by
    have hc := List.pairwise_cons.mp h
    unfold insN
    split
    · rename_i q
      refine List.pairwise_cons.mpr ⟨fun z hz => ?_, h⟩
      rcases List.mem_cons.mp hz with rfl | hz
      · exact q
      · exact Nat.lt_trans q (hc.1 z hz)
    · split
      · refine List.pairwise_cons.mpr ⟨fun z hz => ?_, insN_asc hc.2⟩
        rcases insN_mem.mp hz with rfl | hz
        · assumption
        · exact hc.1 z hz
      · exact h
theorem sdN_asc : ∀ w : List Nat, Asc (sdN w)
  | [] => List.Pairwise.nil
  | x :: w => insN_asc (sdN_asc w)
theorem asc_ext : ∀ {u v : List Nat}, Asc u → Asc v → (∀ x, x ∈ u ↔ x ∈ v) → u = v
  | [], [], _, _, _ => rfl
  | [], y :: v, _, _, h => absurd ((h y).mpr List.mem_cons_self) (by simp)
  | x :: u, [], _, _, h => absurd ((h x).mp List.mem_cons_self) (by simp)
  | x :: u, y :: v, h1, h2, h => by
    have c1 := List.pairwise_cons.mp h1
    have c2 := List.pairwise_cons.mp h2
    have e : x = y := by
      rcases List.mem_cons.mp ((h x).mp List.mem_cons_self) with e | m
      · exact e
      · rcases List.mem_cons.mp ((h y).mpr List.mem_cons_self) with e | m'
        · exact e.symm
        · have := c1.1 y m'; have := c2.1 x m; omega
    subst e
    rw [asc_ext c1.2 c2.2 fun z => ⟨fun m => ?_, fun m => ?_⟩]
    · rcases List.mem_cons.mp ((h z).mp (List.mem_cons_of_mem _ m)) with e | m'
      · have := c1.1 z m; omega
      · exact m'
    · rcases List.mem_cons.mp ((h z).mpr (List.mem_cons_of_mem _ m)) with e | m'
      · have := c2.1 z m; omega
      · exact m'
theorem sdN_of_asc {u : List Nat} (h : Asc u) : sdN u = u := asc_ext (sdN_asc u) h fun _ => sdN_mem
theorem cmn_step {u v : List Nat} {i : Nat} {r : List Nat} (q : idC F u v = i :: r) : (take F ((sdN u).getD i 0) u).isSome = true ∧ (take F ((sdN u).getD i 0) v).isSome = true := by
  have : i ∈ idC F u v := by rw [q]; exact List.mem_cons_self
  unfold idC at this
  rw [List.mem_filter, okC, Bool.and_eq_true] at this
  exact this.2
theorem cmn_end {u v : List Nat} (q : idC F u v = []) (a : Nat) : ¬ ((take F a u).isSome = true ∧ (take F a v).isSome = true) := fun ⟨h1, h2⟩ => by
  obtain ⟨r, hr⟩ := Option.isSome_iff_exists.mp h1
  obtain ⟨i, hi, e⟩ := List.mem_iff_getElem.mp (sdN_mem.mpr (take_mem hr))
  have : i ∈ idC F u v := by
    unfold idC okC
    rw [List.mem_filter]
    refine ⟨List.mem_range.mpr hi, ?_⟩
    rw [List.getD_eq_getElem?_getD, List.getElem?_eq_getElem hi]
    show ((take F (sdN u)[i] u).isSome && (take F (sdN u)[i] v).isSome) = true
    rw [e, h1, h2]; rfl
  rw [q] at this
  cases this
/-- what is common comes first in both; then no letter is -/
theorem cmn_spec : ∀ (n : Nat) (u v : List Nat), u.length ≤ n → ∃ u' v', Eqv F u (cmn F n u v ++ u') ∧ Eqv F v (cmn F n u v ++ v') ∧ ∀ a, ¬ ((take F a u').isSome = true ∧ (take F a v').isSome = true)
  | 0, u, v, h => ⟨u, v, Eqv.refl F _, Eqv.refl F _, fun a ⟨h1, _⟩ => by
    rw [List.length_eq_zero_iff.mp (show u.length = 0 by omega)] at h1
    simp [take] at h1⟩
  | n + 1, u, v, h => by
    unfold cmn
    cases q : idC F u v with
    | nil => exact ⟨u, v, Eqv.refl F _, Eqv.refl F _, cmn_end q⟩
    | cons i r =>
      obtain ⟨h1, h2⟩ := cmn_step q
      simp only
      generalize (sdN u).getD i 0 = a at *
      obtain ⟨ru, hu⟩ := Option.isSome_iff_exists.mp h1
      obtain ⟨rv, hv⟩ := Option.isSome_iff_exists.mp h2
      rw [hu, hv]
      show ∃ u' v', Eqv F u (a :: cmn F n ru rv ++ u') ∧ Eqv F v (a :: cmn F n ru rv ++ v') ∧ _
      have hl := take_len hu
      obtain ⟨u', v', e1, e2, e3⟩ := cmn_spec n ru rv (by omega)
      exact ⟨u', v', (take_eqv hu).trans (Eqv.append (w := [a]) (w' := [a]) (Eqv.refl F _) e1), (take_eqv hv).trans (Eqv.append (w := [a]) (w' := [a]) (Eqv.refl F _) e2), e3⟩
def cm2 (F : Fr) (u v : List Nat) : List Nat := lst F (cmn F u.length u v)
theorem cm2_spec (u v : List Nat) : ∃ u' v', Nf F u' ∧ Nf F v' ∧ Nf F (cm2 F u v) ∧ Eqv F u (cm2 F u v ++ u') ∧ Eqv F v (cm2 F u v ++ v') ∧ ∀ a, ¬ ((take F a u').isSome = true ∧ (take F a v').isSome = true) := by
  obtain ⟨u', v', h1, h2, h3⟩ := cmn_spec (F := F) u.length u v (Nat.le_refl _)
  refine ⟨lst F u', lst F v', Nf.lst _, Nf.lst _, Nf.lst _, h1.trans (Eqv.append (lst_eqv _).symm (lst_eqv _).symm), h2.trans (Eqv.append (lst_eqv _).symm (lst_eqv _).symm), fun a => ?_⟩
  rw [take_isSome_resp (lst_eqv u'), take_isSome_resp (lst_eqv v')]
  exact h3 a
theorem cm2_behind (u v : List Nat) : ∃ p q, behind F (cm2 F u v) u = some p ∧ behind F (cm2 F u v) v = some q := by
  obtain ⟨u', v', h1, h2, _, h3, h4, _⟩ := cm2_spec (F := F) u v
  exact ⟨u', v', behind_some.mpr ⟨h1, h3⟩, behind_some.mpr ⟨h2, h4⟩⟩
/-! ### free sets -/
abbrev PF (F : Fr) (u : List Nat) : Prop := u.Pairwise fun x y => F.free y x = true
theorem pf_symm {x y : Nat} (h : F.free y x = true) : F.free x y = true := by rw [F.symm]; exact h
theorem pf_perm {u v : List Nat} (h : u.Perm v) : PF F u ↔ PF F v := h.pairwise_iff fun {x y} => pf_symm
theorem pf_nodup {u : List Nat} (h : PF F u) : u.Nodup := h.imp fun {x y} h e => by subst e; rw [F.irr] at h; cases h
theorem nf_pf_asc : ∀ {u : List Nat}, Nf F u → PF F u → Asc u
  | [], _, _ => List.Pairwise.nil
  | b :: u, h, hp => by
    have hc := List.pairwise_cons.mp hp
    have hn := nf_cons.mp h
    refine List.pairwise_cons.mpr ⟨fun y hy => ?_, nf_pf_asc hn.1 hc.2⟩
    have h1 := hn.2 y (take_pf hp (List.mem_cons_of_mem _ hy))
    have h2 := hc.1 y hy
    by_cases e : b = y
    · subst e; rw [F.irr] at h2; cases h2
    · omega
theorem fs_iff {u : List Nat} : FS F u ↔ Nf F u ∧ PF F u := ⟨fun h => ⟨asc_nf h.1, h.2⟩, fun h => ⟨nf_pf_asc h.1 h.2, h.2⟩⟩
theorem fs_filter {u : List Nat} (h : FS F u) (p : Nat → Bool) : FS F (u.filter p) := ⟨List.Pairwise.filter _ h.1, List.Pairwise.filter _ h.2⟩
theorem fs_nodup {u : List Nat} (h : FS F u) : u.Nodup := pf_nodup h.2
/-- parts of a free set -/
theorem fs_parts {u c r : List Nat} (h : FS F u) (e : Eqv F u (c ++ r)) (hc : Nf F c) (hr : Nf F r) : FS F c ∧ FS F r ∧ ∀ x ∈ c, x ∉ r := by
  have hp := (pf_perm e.perm).mp h.2
  have hd := pf_nodup hp
  unfold PF at hp
  rw [List.pairwise_append] at hp
  rw [List.nodup_append] at hd
  exact ⟨fs_iff.mpr ⟨hc, hp.1⟩, fs_iff.mpr ⟨hr, hp.2.1⟩, fun x hx hx' => hd.2.2 x hx x hx' rfl⟩
theorem cm2_fs {u v : List Nat} (hu : FS F u) (hv : FS F v) : cm2 F u v = u.filter (fun x => v.contains x) ∧ behind F (cm2 F u v) u = some (u.filter fun x => !v.contains x) ∧ behind F (cm2 F u v) v = some (v.filter fun x => !u.contains x) := by
  obtain ⟨u', v', n1, n2, n3, e1, e2, e3⟩ := cm2_spec (F := F) u v
  obtain ⟨c1, f1, d1⟩ := fs_parts hu e1 n3 n1
  obtain ⟨_, f2, d2⟩ := fs_parts hv e2 n3 n2
  have mu : ∀ x, x ∈ u ↔ x ∈ cm2 F u v ∨ x ∈ u' := fun x => by rw [e1.mem, List.mem_append]
  have mv : ∀ x, x ∈ v ↔ x ∈ cm2 F u v ∨ x ∈ v' := fun x => by rw [e2.mem, List.mem_append]
  have dd : ∀ x, x ∈ u' → x ∈ v' → False := fun x h1 h2 => e3 x ⟨take_pf f1.2 h1, take_pf f2.2 h2⟩
  have a1 : u' = u.filter fun x => !v.contains x := asc_ext f1.1 (fs_filter hu _).1 fun x => by
    rw [List.mem_filter, mu]
    simp only [Bool.not_eq_true', List.contains_eq_mem, decide_eq_false_iff_not, mv]
    constructor
    · intro h
      exact ⟨.inr h, fun z => z.elim (fun z => d1 x z h) fun z => dd x h z⟩
    · rintro ⟨h | h, h'⟩
      · exact absurd (.inl h) h'
      · exact h
  have a2 : v' = v.filter fun x => !u.contains x := asc_ext f2.1 (fs_filter hv _).1 fun x => by
    rw [List.mem_filter, mv]
    simp only [Bool.not_eq_true', List.contains_eq_mem, decide_eq_false_iff_not, mu]
    constructor
    · intro h
      exact ⟨.inr h, fun z => z.elim (fun z => d2 x z h) fun z => dd x z h⟩
    · rintro ⟨h | h, h'⟩
      · exact absurd (.inl h) h'
      · exact h
  refine ⟨asc_ext c1.1 (fs_filter hu _).1 fun x => ?_, ?_, ?_⟩
  · rw [List.mem_filter, mu]
    simp only [List.contains_eq_mem, decide_eq_true_eq, mv]
    constructor
    · intro h; exact ⟨.inl h, .inl h⟩
    · rintro ⟨h | h, h' | h'⟩
      · exact h
      · exact h
      · exact h'
      · exact (dd x h h').elim
  · rw [← a1]; exact behind_some.mpr ⟨n1, e1⟩
  · rw [← a2]; exact behind_some.mpr ⟨n2, e2⟩
/-- apart -/
def apF (F : Fr) (u w : List Nat) : Bool := u.all fun a => w.all fun b => F.free a b
/-- a pile above two, the least -/
def ab2 (F : Fr) (u v : List Nat) : Option (List Nat) :=
  match behind F (cm2 F u v) u, behind F (cm2 F u v) v with
  | some p, some q => if apF F p q then some (lst F (u ++ q)) else none
  | _, _ => none
theorem apF_iff {u w : List Nat} : apF F u w = true ↔ ∀ a ∈ u, ∀ b ∈ w, F.free a b = true := by
  unfold apF
  simp only [List.all_eq_true]
/-- both, in order -/
def both (u v : List Nat) : List Nat := sdN (u ++ v)
theorem both_mem {u v : List Nat} {x : Nat} : x ∈ both u v ↔ x ∈ u ∨ x ∈ v := by
  unfold both
  rw [sdN_mem, List.mem_append]
theorem pf_iff_asc {w : List Nat} (h : Asc w) : PF F w ↔ ∀ x ∈ w, ∀ y ∈ w, x ≠ y → F.free x y = true := by
  constructor
  · intro hp x hx y hy hne
    induction w with
    | nil => cases hx
    | cons a w ih =>
      have c := List.pairwise_cons.mp hp
      rcases List.mem_cons.mp hx with e1 | hx1
      · rcases List.mem_cons.mp hy with e2 | hy1
        · exact absurd (e1.trans e2.symm) hne
        · rw [e1]; exact pf_symm (c.1 y hy1)
      · rcases List.mem_cons.mp hy with e2 | hy1
        · rw [e2]; exact c.1 x hx1
        · exact ih (List.pairwise_cons.mp h).2 c.2 hx1 hy1
  · intro hp
    exact List.Pairwise.imp_of_mem (fun {x y} hx hy hxy => hp y hy x hx (by omega)) h
theorem both_pf {u v : List Nat} (hu : FS F u) (hv : FS F v) : PF F (both u v) ↔ apF F (u.filter fun x => !v.contains x) (v.filter fun x => !u.contains x) = true := by
  have ha : Asc (both u v) := sdN_asc _
  rw [pf_iff_asc ha, apF_iff]
  have pu := (pf_iff_asc hu.1).mp hu.2
  have pv := (pf_iff_asc hv.1).mp hv.2
  constructor
  · intro h a ma b mb
    rw [List.mem_filter] at ma mb
    refine h a (both_mem.mpr (.inl ma.1)) b (both_mem.mpr (.inr mb.1)) fun e => ?_
    subst e
    have := mb.2
    simp [ma.1] at this
  · intro h x hx y hy hne
    have key : ∀ x ∈ u, ∀ y ∈ v, x ≠ y → F.free x y = true := fun x hx y hy hne => by
      by_cases q : x ∈ v
      · exact pv x q y hy hne
      · by_cases q' : y ∈ u
        · exact pu x hx y q' hne
        · exact h x (List.mem_filter.mpr ⟨hx, by simpa using q⟩) y (List.mem_filter.mpr ⟨hy, by simpa using q'⟩)
    rcases both_mem.mp hx with hx | hx <;> rcases both_mem.mp hy with hy | hy
    · exact pu x hx y hy hne
    · exact key x hx y hy hne
    · exact pf_symm (key y hy x hx fun e => hne e.symm)
    · exact pv x hx y hy hne
/-- above two free sets -/
theorem ab2_fs {u v : List Nat} (hu : FS F u) (hv : FS F v) : ab2 F u v = if apF F (u.filter fun x => !v.contains x) (v.filter fun x => !u.contains x) then some (both u v) else none := by
  obtain ⟨_, h1, h2⟩ := cm2_fs hu hv
  unfold ab2
  rw [h1, h2]
  simp only
  cases q : apF F (u.filter fun x => !v.contains x) (v.filter fun x => !u.contains x) with
  | false => rfl
  | true =>
    have hp := (both_pf hu hv).mpr q
    have hf : FS F (both u v) := ⟨sdN_asc _, hp⟩
    simp only [if_true]
    congr 1
    have pm : (u ++ v.filter fun x => !u.contains x).Perm (both u v) := by
      refine (List.perm_ext_iff_of_nodup ?_ (fs_nodup hf)).mpr fun x => ?_
      · rw [List.nodup_append]
        refine ⟨fs_nodup hu, nodup_filter (fs_nodup hv), fun a ha b hb e => ?_⟩
        subst e
        have := (List.mem_filter.mp hb).2
        simp [ha] at this
      · rw [both_mem, List.mem_append, List.mem_filter]
        constructor
        · rintro (h | h)
          · exact .inl h
          · exact .inr h.1
        · rintro (h | h)
          · exact .inl h
          · by_cases q : x ∈ u
            · exact .inl q
            · exact .inr ⟨h, by simpa using q⟩
    have fl : FS F (lst F (u ++ v.filter fun x => !u.contains x)) := fs_iff.mpr ⟨Nf.lst _, (pf_perm ((lst_eqv _).perm.trans pm)).mpr hp⟩
    exact asc_ext fl.1 hf.1 fun x => by rw [(lst_eqv _).mem, pm.mem_iff]
/-- above all -/
def aball (F : Fr) : List Nat → List (List Nat) → Option (List Nat)
  | u, [] => some u
  | u, v :: vs => match ab2 F u v with
    | none => none
    | some r => aball F r vs
theorem fs_one (a : Nat) : FS F [a] := ⟨List.pairwise_singleton _ _, List.pairwise_singleton _ _⟩
theorem both_snoc {u : List Nat} {a : Nat} (h : Asc (u ++ [a])) : both u [a] = u ++ [a] := asc_ext (sdN_asc _) h fun x => by rw [both_mem, List.mem_append]
/-- letters one after another -/
theorem aball_ones : ∀ (vs u : List Nat), Asc (u ++ vs) → FS F u → (PF F (u ++ vs) → aball F u (vs.map fun a => [a]) = some (u ++ vs)) ∧ (¬ PF F (u ++ vs) → aball F u (vs.map fun a => [a]) = none)
  | [], u, _, hu => by
    rw [List.append_nil]
    exact ⟨fun _ => rfl, fun h => absurd hu.2 h⟩
  | a :: vs, u, h, hu => by
    have e0 : u ++ a :: vs = (u ++ [a]) ++ vs := by simp
    have hua : Asc (u ++ [a]) := by
      rw [e0] at h
      exact (List.pairwise_append.mp h).1
    have hb := both_snoc hua
    have hab := ab2_fs hu (fs_one (F := F) a)
    have hbp := both_pf hu (fs_one (F := F) a)
    rw [hb] at hbp
    have e1 : aball F u ((a :: vs).map fun a => [a]) = (match ab2 F u [a] with | none => none | some r => aball F r (vs.map fun a => [a])) := rfl
    rw [e1, hab, hb]
    by_cases q : PF F (u ++ [a])
    · rw [hbp.mp q, if_pos rfl, e0]
      exact aball_ones vs (u ++ [a]) (by rw [← e0]; exact h) ⟨hua, q⟩
    · have hf : apF F (u.filter fun x => !([a] : List Nat).contains x) (([a] : List Nat).filter fun x => !u.contains x) = false := by
        cases z : apF F (u.filter fun x => !([a] : List Nat).contains x) (([a] : List Nat).filter fun x => !u.contains x) with
        | false => rfl
        | true => exact absurd (hbp.mpr z) q
      have nq : ¬ PF F (u ++ a :: vs) := fun z => by
        rw [e0] at z
        exact q (List.pairwise_append.mp z).1
      refine ⟨fun z => absurd z nq, fun _ => ?_⟩
      rw [hf]
      rfl
end Tr
set_option linter.all false
set_option maxRecDepth 100000
/-! P2: what loops and comprehensions mean, as maps and folds. -/
namespace Ev
open PySem
/-! ### sources as lists -/
theorem goLc_src {src src' : Src} (h : ∀ i S, src i S = src' i S) (f : Wv → Env' → Option Env') (mt : M Bool) (me : M Wv) (ρ0 : Env') : ∀ (n i : Nat) (S : Sto), goLc src f mt me ρ0 n i S = goLc src' f mt me ρ0 n i S
  | 0, _, _ => rfl
  | n + 1, i, S => by
    unfold goLc
    rw [h i S]
    congr 1
    funext o
    cases o with
    | none => rfl
    | some d =>
      simp only [goLc_src h f mt me ρ0 n]
theorem forGo_src {src src' : Src} (h : ∀ i S, src i S = src' i S) (f : Wv → Env' → Option Env') (b : MS) : ∀ (n i : Nat) (ρ : Env') (S : Sto), forGo src f b n i ρ S = forGo src' f b n i ρ S
  | 0, _, _, _ => rfl
  | n + 1, i, ρ, S => by
    unfold forGo
    rw [h i S]
    congr 1
    funext o
    cases o with
    | none => rfl
    | some d => simp only [forGo_src h f b n]
def rgL (lo : Int) (n : Nat) : List PyData := (List.range n).map fun i => .int (lo + (i : Nat))
theorem srcR_L (lo : Int) (n : Nat) (i : Nat) (S : Sto) : srcR lo n i S = srcL (rgL lo n) i S := by
  unfold srcR srcL rgL
  rw [List.getElem?_map]
  by_cases h : i < n
  · rw [if_pos (Nat.blt_eq.mpr h), List.getElem?_range h]; rfl
  · rw [if_neg (fun z => h (Nat.blt_eq.mp z)), List.getElem?_eq_none (by simpa using Nat.le_of_not_lt h)]; rfl
def enL (xs : List PyData) : List PyData := xs.mapIdx fun i x => .tuple [.int (i : Nat), x]
theorem srcE_L (xs : List PyData) (i : Nat) (S : Sto) : srcE (srcL xs) i S = srcL (enL xs) i S := by
  unfold srcE srcL enL
  rw [List.getElem?_mapIdx]
  rfl
theorem srcL_at (ds : List PyData) (i : Nat) (S : Sto) : srcL ds i S = some ds[i]? := rfl
theorem goLc_succ (src : Src) (f : Wv → Env' → Option Env') (mt : M Bool) (me : M Wv) (ρ0 : Env') (n i : Nat) (S : Sto) : goLc src f mt me ρ0 (n + 1) i S = (src i S).bind fun o => match o with
    | none => some ([], S)
    | some d => (f (.d d) ρ0).bind fun ρ1 => (mt ρ1 S).bind fun p => if p.1 then (me ρ1 p.2).bind fun q => (datW q.1).bind fun y => (goLc src f mt me ρ0 n (i + 1) q.2).map fun r => (y :: r.1, r.2) else goLc src f mt me ρ0 n (i + 1) p.2 := rfl
theorem forGo_succ (src : Src) (f : Wv → Env' → Option Env') (body : MS) (n i : Nat) (ρ : Env') (S : Sto) : forGo src f body (n + 1) i ρ S = (src i S).bind fun o => match o with
    | none => some (.nx, ρ, S)
    | some d => (f (.d d) ρ).bind fun ρ1 => (body ρ1 S).bind fun p => match p.1 with
      | .nx => forGo src f body n (i + 1) p.2.1 p.2.2
      | .ct => forGo src f body n (i + 1) p.2.1 p.2.2
      | .bk => some (.nx, p.2)
      | .rt w => some (.rt w, p.2) := rfl
/-! ### a comprehension -/
section
variable {f : Wv → Env' → Option Env'} {mt : M Bool} {me : M Wv} {ρ0 : Env'} {S : Sto}
theorem goLc_list {r : PyData → Env'} {p : PyData → Bool} {h : PyData → PyData} (ds : List PyData) (hf : ∀ d ∈ ds, f (.d d) ρ0 = some (r d)) (ht : ∀ d ∈ ds, mt (r d) S = some (p d, S)) (he : ∀ d ∈ ds, p d = true → me (r d) S = some (.d (h d), S)) :
    ∀ (k i : Nat), i + k = ds.length → goLc (srcL ds) f mt me ρ0 (k + 1) i S = some (((ds.drop i).filter p).map h, S)
  | 0, i, e => by
    have e1 : ds[i]? = none := List.getElem?_eq_none (by omega)
    rw [goLc_succ, srcL_at, e1, List.drop_eq_nil_of_le (by omega)]
    rfl
  | k + 1, i, e => by
    have hi : i < ds.length := by omega
    have m : ds[i] ∈ ds := List.getElem_mem hi
    have ih := goLc_list ds hf ht he k (i + 1) (by omega)
    rw [goLc_succ, srcL_at, List.getElem?_eq_getElem hi]
    simp only [Option.bind_some, hf _ m, ht _ m]
    rw [List.drop_eq_getElem_cons hi, List.filter_cons]
    by_cases hp : p ds[i] = true
    · simp only [hp, if_true, he _ m hp, Option.bind_some, datW]
      rw [ih]
      rfl
    · simp only [hp, if_false, Bool.false_eq_true]
      exact ih
end
/-! ### a for, no way out -/
section
variable {f : Wv → Env' → Option Env'} {b : MS}
theorem forGo_fold {α : Type} (rep : α → Env' × Sto) (step : α → PyData → α) (ds : List PyData) (h : ∀ a d, d ∈ ds → ∃ ρ1, f (.d d) (rep a).1 = some ρ1 ∧ b ρ1 (rep a).2 = some (.nx, (rep (step a d)).1, (rep (step a d)).2)) :
    ∀ (k i : Nat) (a : α), i + k = ds.length → forGo (srcL ds) f b (k + 1) i (rep a).1 (rep a).2 = some (.nx, (rep ((ds.drop i).foldl step a)).1, (rep ((ds.drop i).foldl step a)).2)
  | 0, i, a, e => by
    have e1 : ds[i]? = none := List.getElem?_eq_none (by omega)
    rw [forGo_succ, srcL_at, e1, List.drop_eq_nil_of_le (by omega)]
    rfl
  | k + 1, i, a, e => by
    have hi : i < ds.length := by omega
    have m : ds[i] ∈ ds := List.getElem_mem hi
    obtain ⟨ρ1, h1, h2⟩ := h a _ m
    rw [forGo_succ, srcL_at, List.getElem?_eq_getElem hi]
    simp only [Option.bind_some, h1, h2]
    rw [List.drop_eq_getElem_cons hi, List.foldl_cons]
    exact forGo_fold rep step ds h k (i + 1) _ (by omega)
end
end Ev
namespace Ev
open PySem
/-- a comprehension over a list that stands still, nothing is changed -/
theorem mLc_list {mi : M (Src × Nat)} {vs : List Nat} {f : Wv → Env' → Option Env'} {mt : M Bool} {me : M Wv} {ρ : Env'} {S : Sto} {src : Src} {n : Nat} (ds : List PyData) (h1 : mi ρ S = some ((src, n), S)) (hs : ∀ i S, src i S = srcL ds i S) (hn : n = ds.length + 1) (hl : ds.length < 1000000)
    (r : PyData → Env') (p : PyData → Bool) (h : PyData → PyData) (hf : ∀ d ∈ ds, f (.d d) (wipeE ρ vs) = some (r d)) (ht : ∀ d ∈ ds, mt (r d) S = some (p d, S)) (he : ∀ d ∈ ds, p d = true → me (r d) S = some (.d (h d), S)) :
    mLc mi vs f mt me ρ S = some ((ds.filter p).map h, S) := by
  unfold mLc
  rw [h1]
  simp only [Option.bind_some]
  subst hn
  rw [if_pos (show few (ds.length + 1) = true from Nat.ble_eq.mpr (by omega)), goLc_src hs]
  have := goLc_list ds hf ht he ds.length 0 (by omega)
  rw [List.drop_zero] at this
  exact this
/-- a for: I holds of the turn, the slots and the store; a turn may end the def -/
theorem forGo_inv {f : Wv → Env' → Option Env'} {b : MS} (ds : List PyData) (I : Nat → Env' → Sto → Prop) (Ex : Wv → Sto → Prop)
    (step : ∀ i (hi : i < ds.length) ρ S, I i ρ S → ∃ ρ1 fl ρ2 S2, f (.d ds[i]) ρ = some ρ1 ∧ b ρ1 S = some (fl, ρ2, S2) ∧ ((fl = .nx ∧ I (i + 1) ρ2 S2) ∨ ∃ w, fl = .rt w ∧ Ex w S2)) :
    ∀ (k i : Nat) (ρ : Env') (S : Sto), i + k = ds.length → I i ρ S → ∃ fl ρ' S', forGo (srcL ds) f b (k + 1) i ρ S = some (fl, ρ', S') ∧ ((fl = .nx ∧ I ds.length ρ' S') ∨ ∃ w, fl = .rt w ∧ Ex w S')
  | 0, i, ρ, S, e, hI => by
    have e1 : ds[i]? = none := List.getElem?_eq_none (by omega)
    refine ⟨.nx, ρ, S, by rw [forGo_succ, srcL_at, e1]; rfl, .inl ⟨rfl, ?_⟩⟩
    rw [show ds.length = i by omega]
    exact hI
  | k + 1, i, ρ, S, e, hI => by
    have hi : i < ds.length := by omega
    obtain ⟨ρ1, fl, ρ2, S2, h1, h2, h3⟩ := step i hi ρ S hI
    have e0 : forGo (srcL ds) f b (k + 1 + 1) i ρ S = (match fl with
      | .nx => forGo (srcL ds) f b (k + 1) (i + 1) ρ2 S2
      | .ct => forGo (srcL ds) f b (k + 1) (i + 1) ρ2 S2
      | .bk => some (.nx, ρ2, S2)
      | .rt w => some (.rt w, ρ2, S2)) := by
      rw [forGo_succ, srcL_at, List.getElem?_eq_getElem hi]
      simp only [Option.bind_some, h1, h2]
      cases fl <;> rfl
    rw [e0]
    rcases h3 with ⟨rfl, h3⟩ | ⟨w, rfl, h3⟩
    · exact forGo_inv ds I Ex step k (i + 1) ρ2 S2 (by omega) h3
    · exact ⟨.rt w, ρ2, S2, rfl, .inr ⟨w, rfl, h3⟩⟩
theorem mFor_ex {mi : M (Src × Nat)} {f : Wv → Env' → Option Env'} {b : MS} {ρ : Env'} {S : Sto} {src : Src} {n : Nat} (ds : List PyData) (h1 : mi ρ S = some ((src, n), S)) (hs : ∀ i S, src i S = srcL ds i S) (hn : n = ds.length + 1) (I : Nat → Env' → Sto → Prop) (Ex : Wv → Sto → Prop) (h0 : I 0 ρ S)
    (step : ∀ i (hi : i < ds.length) ρ S, I i ρ S → ∃ ρ1 fl ρ2 S2, f (.d ds[i]) ρ = some ρ1 ∧ b ρ1 S = some (fl, ρ2, S2) ∧ ((fl = .nx ∧ I (i + 1) ρ2 S2) ∨ ∃ w, fl = .rt w ∧ Ex w S2)) :
    ∃ fl ρ' S', mFor mi f b ρ S = some (fl, ρ', S') ∧ ((fl = .nx ∧ I ds.length ρ' S') ∨ ∃ w, fl = .rt w ∧ Ex w S') := by
  unfold mFor
  rw [h1]
  simp only [Option.bind_some]
  subst hn
  rw [forGo_src hs]
  exact forGo_inv ds I Ex step ds.length 0 ρ S (by omega) h0
theorem mFor_inv {mi : M (Src × Nat)} {f : Wv → Env' → Option Env'} {b : MS} {ρ : Env'} {S : Sto} {src : Src} {n : Nat} (ds : List PyData) (h1 : mi ρ S = some ((src, n), S)) (hs : ∀ i S, src i S = srcL ds i S) (hn : n = ds.length + 1) (I : Nat → Env' → Sto → Prop) (h0 : I 0 ρ S)
    (step : ∀ i (hi : i < ds.length) ρ S, I i ρ S → ∃ ρ1 ρ2 S2, f (.d ds[i]) ρ = some ρ1 ∧ b ρ1 S = some (.nx, ρ2, S2) ∧ I (i + 1) ρ2 S2) :
    ∃ ρ' S', mFor mi f b ρ S = some (.nx, ρ', S') ∧ I ds.length ρ' S' := by
  obtain ⟨fl, ρ', S', e, h⟩ := mFor_ex ds h1 hs hn I (fun _ _ => False) h0 fun i hi ρ S hI => by
    obtain ⟨ρ1, ρ2, S2, a, b', c⟩ := step i hi ρ S hI
    exact ⟨ρ1, .nx, ρ2, S2, a, b', .inl ⟨rfl, c⟩⟩
  rcases h with ⟨rfl, h⟩ | ⟨w, _, h⟩
  · exact ⟨ρ', S', e, h⟩
  · exact h.elim
/-! ### the store: the caller's cells, then one's own -/
theorem st_get (S l : Sto) (k : Nat) : (S ++ l)[S.length + k]? = l[k]? := by rw [List.getElem?_append_right (Nat.le_add_right _ _), Nat.add_sub_cancel_left]
theorem st_get0 (S l : Sto) : (S ++ l)[S.length]? = l[0]? := st_get S l 0
theorem st_set (S l : Sto) (k : Nat) (c : Cell) : (S ++ l).set (S.length + k) c = S ++ l.set k c := by rw [List.set_append_right _ _ (Nat.le_add_right _ _), Nat.add_sub_cancel_left]
theorem st_set0 (S l : Sto) (c : Cell) : (S ++ l).set S.length c = S ++ l.set 0 c := st_set S l 0 c
theorem st_take (S l : Sto) : (S ++ l).take S.length = S := List.take_left
end Ev
namespace Ev
open PySem
theorem mLc_map {mi : M (Src × Nat)} {vs : List Nat} {f : Wv → Env' → Option Env'} {me : M Wv} {ρ : Env'} {S : Sto} {src : Src} {n : Nat} (ds : List PyData) (h1 : mi ρ S = some ((src, n), S)) (hs : ∀ i S, src i S = srcL ds i S) (hn : n = ds.length + 1) (hl : ds.length < 1000000)
    (r : PyData → Env') (h : PyData → PyData) (hf : ∀ d ∈ ds, f (.d d) (wipeE ρ vs) = some (r d)) (he : ∀ d ∈ ds, me (r d) S = some (.d (h d), S)) :
    mLc mi vs f mYes me ρ S = some (ds.map h, S) := by
  have := mLc_list (mt := mYes) (me := me) ds h1 hs hn hl r (fun _ => true) h hf (fun d _ => rfl) fun d hd _ => he d hd
  rw [this, List.filter_eq_self.mpr fun _ _ => rfl]
theorem ixD_nat {α : Type} (l : List α) (i : Nat) : ixD l (i : Int) = l[i]? := rfl
theorem ixD_succ {α : Type} (l : List α) (i : Nat) : ixD l ((i : Int) + 1) = l[i + 1]? := rfl
end Ev
namespace Ev
open PySem
theorem ixD_0 {α : Type} (l : List α) : ixD l 0 = l[0]? := rfl
theorem ixD_1 {α : Type} (l : List α) : ixD l 1 = l[1]? := rfl
theorem ixD_2 {α : Type} (l : List α) : ixD l 2 = l[2]? := rfl
theorem ixD_3 {α : Type} (l : List α) : ixD l 3 = l[3]? := rfl
theorem ixD_m1 {α : Type} (l : List α) : ixD l (-1) = l.getLast? := by
  show (if Nat.blt 0 l.length then l[l.length - 1]? else none) = _
  cases l with
  | nil => rfl
  | cons x l =>
    rw [if_pos (by simp), List.getLast?_eq_getElem?]
end Ev
set_option linter.all false
set_option maxRecDepth 100000
/-! the meanings of the defs of the law; printed by gen.py -/
namespace LW
open PySem PySem.Spec PyProof.Rows L2 Ev
def b__law_roll : MS :=
  (mSeq (mIfS (mBool (mBin dGt (mBin dIx (mVar 0) (mC (.int 0))) (mC (.int 0)))) (mSeq (mSet 2 (mBin dMod (mCall dInt (mCons (mBin dIx (mVar 0) (mC (.int 0))) mNil)) (mVar 1)))
  (mSeq (mSubL (mVar 0) (mC (.int 0)) (mBin dFdiv (mBin dIx (mVar 0) (mC (.int 0))) (mVar 1)))
  (mRet (mVar 2)))) mNext)
  (mSeq (mSubL (mVar 0) (mC (.int 1)) (mBin dMod (mCall dInt (mCons (mBin dAdd (mBin dMul (mBin dIx (mVar 0) (mC (.int 1))) (mC (.int 25349))) (mC (.int 52501))) mNil)) (mC (.int 1048576))))
  (mRet (mBin dMod (mCall dInt (mCons (mBin dFdiv (mBin dIx (mVar 0) (mC (.int 1))) (mC (.int 151))) mNil)) (mVar 1)))))
def f__law_roll : FW := fnM false 2 3 b__law_roll
def l__law_letters_1b : MS :=
  (mSet 3 (mBin dAdd (mVar 3) (mIf (mBool (mBin dEq (mFn f__law_roll (mCons (mVar 0) (mCons (mC (.int 2)) mNil))) (mC (.int 0)))) (mFr (mDisp (mCons (mTup (mCons (mVar 4) (mCons (mVar 5) mNil))) mNil))) (mFr (mDisp mNil)))))
def l__law_letters_1 : MS := mFor (mRg2 (mCons (mBin dAdd (mVar 4) (mC (.int 1))) (mCons (mVar 2) mNil))) (gN 5) l__law_letters_1b
def l__law_letters_2b : MS :=
  l__law_letters_1
def l__law_letters_2 : MS := mFor (mRg1 (mCons (mVar 2) mNil)) (gN 4) l__law_letters_2b
def b__law_letters : MS :=
  (mSeq (mSet 2 (mBin dAdd (mC (.int 1)) (mFn f__law_roll (mCons (mVar 0) (mCons (mVar 1) mNil)))))
  (mSeq (mSet 3 (mFr (mDisp mNil)))
  (mSeq l__law_letters_2
  (mRet (mTup (mCons (mVar 2) (mCons (mCall dTuple (mCons (mVar 3) mNil)) mNil)))))))
def f__law_letters : FW := fnM false 2 6 b__law_letters
def b__law_sort : MS :=
  (mSeq (mIfS (mOr (mBool (mBin dIs (mVar 0) (mC .none))) (mBool (mIsa PyData.isBool (mVar 0)))) (mRet (mIf (mBool (mBin dIs (mVar 0) (mC .none))) (mC (.int 0)) (mC (.int 1)))) mNext)
  (mSeq (mIfS (mOr (mBool (mIsa PyData.isInt (mVar 0))) (mBool (mIsa PyData.isStr (mVar 0)))) (mRet (mIf (mBool (mIsa PyData.isInt (mVar 0))) (mC (.int 2)) (mC (.int 3)))) mNext)
  (mRet (mIf (mBool (mIsa PyData.isTuple (mVar 0))) (mC (.int 4)) (mIf (mBool (mIsa PyData.isList (mVar 0))) (mC (.int 5)) (mC (.int 6)))))))
def f__law_sort : FW := fnM false 1 1 b__law_sort
def c__law_like_1 (f__law_like : FW) : M (List PyData) := mLc (mZip (mVar 0) (mVar 1)) [3, 4] (gT (gsC (gN 3) (gsC (gN 4) gsN))) (mNot (mBool (mFn f__law_like (mCons (mVar 3) (mCons (mVar 4) mNil))))) (mC (.int 1))
def b__law_like (f__law_like : FW) : MS :=
  (mSeq (mSet 2 (mFn f__law_sort (mCons (mVar 1) mNil)))
  (mSeq (mIfS (mOr (mBool (mBin dNe (mFn f__law_sort (mCons (mVar 0) mNil)) (mVar 2))) (mBool (mBin dEq (mVar 2) (mC (.int 6))))) (mRet (mC (.bool false))) mNext)
  (mSeq (mIfS (mBool (mBin dIn (mVar 2) (mTup (mCons (mC (.int 4)) (mCons (mC (.int 5)) mNil))))) (mRet (mAndV (mBin dEq (mCall dLen (mCons (mVar 0) mNil)) (mCall dLen (mCons (mVar 1) mNil))) (mBin dEq (mFr (c__law_like_1 f__law_like)) (mFr (mDisp mNil))))) mNext)
  (mRet (mBin dEq (mVar 0) (mVar 1))))))
def r__law_like : Nat → FW
  | 0 => fun _ _ => none
  | d + 1 => fnM false 2 5 (b__law_like (r__law_like d))
def f__law_like : FW := r__law_like 6
def b__law_some : MS :=
  (mRet (mBin dIx (mVar 1) (mFn f__law_roll (mCons (mVar 0) (mCons (mCall dLen (mCons (mVar 1) mNil)) mNil)))))
def f__law_some : FW := fnM false 2 2 b__law_some
def b_is_free : MS :=
  (mRet (mBin dIn (mIf (mBool (mBin dLt (mVar 1) (mVar 2))) (mTup (mCons (mVar 1) (mCons (mVar 2) mNil))) (mTup (mCons (mVar 2) (mCons (mVar 1) mNil)))) (mBin dIx (mVar 0) (mC (.int 1)))))
def f_is_free : FW := fnM false 3 3 b_is_free
def b_is_tuple_of : MS :=
  (mRet (mAndV (mIsa PyData.isTuple (mVar 0)) (mChain dLe dLe (mVar 1) (mCall dLen (mCons (mVar 0) mNil)) (mVar 2))))
def f_is_tuple_of : FW := fnM false 3 3 b_is_tuple_of
def b_is_whole : MS :=
  (mRet (mAndV (mIsa PyData.isInt (mVar 0)) (mAndV (mNotV (mIsa PyData.isBool (mVar 0))) (mChain dLe dLe (mVar 1) (mVar 0) (mVar 2)))))
def f_is_whole : FW := fnM false 3 3 b_is_whole
def c_is_pair_1 : M (List PyData) := mLc (mIt (mVar 1)) [2] (gN 2) mYes (mFn f_is_whole (mCons (mVar 2) (mCons (mC (.int 0)) (mCons (mBin dSub (mVar 0) (mC (.int 1))) mNil))))
def b_is_pair : MS :=
  (mRet (mAndV (mFn f_is_tuple_of (mCons (mVar 1) (mCons (mC (.int 2)) (mCons (mC (.int 2)) mNil)))) (mAndV (mCall dAll (mCons (mFr c_is_pair_1) mNil)) (mBin dLt (mBin dIx (mVar 1) (mC (.int 0))) (mBin dIx (mVar 1) (mC (.int 1)))))))
def f_is_pair : FW := fnM false 2 3 b_is_pair
def c_is_letters_1 : M (List PyData) := mLc (mIt (mBin dIx (mVar 0) (mC (.int 1)))) [1] (gN 1) mYes (mFn f_is_pair (mCons (mBin dIx (mVar 0) (mC (.int 0))) (mCons (mVar 1) mNil)))
def c_is_letters_2 : M (List PyData) := mLc (mRg1 (mCons (mBin dSub (mCall dLen (mCons (mBin dIx (mVar 0) (mC (.int 1))) mNil)) (mC (.int 1))) mNil)) [2] (gN 2) mYes (mBin dLt (mBin dIx (mBin dIx (mVar 0) (mC (.int 1))) (mVar 2)) (mBin dIx (mBin dIx (mVar 0) (mC (.int 1))) (mBin dAdd (mVar 2) (mC (.int 1)))))
def b_is_letters : MS :=
  (mSeq (mIfS (mOr (mNot (mBool (mFn f_is_tuple_of (mCons (mVar 0) (mCons (mC (.int 2)) (mCons (mC (.int 2)) mNil)))))) (mOr (mNot (mBool (mFn f_is_whole (mCons (mBin dIx (mVar 0) (mC (.int 0))) (mCons (mC (.int 1)) (mCons (mC (.int 8)) mNil)))))) (mNot (mBool (mFn f_is_tuple_of (mCons (mBin dIx (mVar 0) (mC (.int 1))) (mCons (mC (.int 0)) (mCons (mBin dMul (mC (.int 8)) (mC (.int 8))) mNil)))))))) (mRet (mC (.bool false))) mNext)
  (mSeq (mIfS (mNot (mBool (mCall dAll (mCons (mFr c_is_letters_1) mNil)))) (mRet (mC (.bool false))) mNext)
  (mRet (mCall dAll (mCons (mFr c_is_letters_2) mNil)))))
def f_is_letters : FW := fnM false 1 3 b_is_letters
def b_need_letters : MS :=
  (mIfS (mNot (mBool (mFn f_is_letters (mCons (mVar 0) mNil)))) mNever mNext)
def f_need_letters : FW := fnM false 1 1 b_need_letters
def c_is_word_of_1 : M (List PyData) := mLc (mIt (mVar 1)) [2] (gN 2) mYes (mFn f_is_whole (mCons (mVar 2) (mCons (mC (.int 0)) (mCons (mBin dSub (mBin dIx (mVar 0) (mC (.int 0))) (mC (.int 1))) mNil))))
def b_is_word_of : MS :=
  (mRet (mAndV (mFn f_is_tuple_of (mCons (mVar 1) (mCons (mC (.int 0)) (mCons (mC (.int 60)) mNil)))) (mCall dAll (mCons (mFr c_is_word_of_1) mNil))))
def f_is_word_of : FW := fnM false 2 3 b_is_word_of
def c_first_places_1 : M (List PyData) := mLc (mIt (mSl dSl (mVar 1) mNoP (mPart (mVar 3)))) [5] (gN 5) mYes (mFn f_is_free (mCons (mVar 0) (mCons (mVar 4) (mCons (mVar 5) mNil))))
def l_first_places_1b : MS :=
  (mIfS (mBool (mCall dAll (mCons (mFr c_first_places_1) mNil))) (mDo (mApp (mVar 2) (mVar 3))) mNext)
def l_first_places_1 : MS := mFor (mEnum (mVar 1)) (gT (gsC (gN 3) (gsC (gN 4) gsN))) l_first_places_1b
def b_first_places : MS :=
  (mSeq (mSet 2 (mNew (mDisp mNil)))
  (mSeq l_first_places_1
  (mRet (mVar 2))))
def f_first_places : FW := fnM false 2 6 b_first_places
def c_least_1 : M (List PyData) := mLc (mIt (mFn f_first_places (mCons (mVar 0) (mCons (mVar 2) mNil)))) [6] (gN 6) mYes (mTup (mCons (mBin dIx (mVar 2) (mVar 6)) (mCons (mVar 6) mNil)))
def l_least_1b : MS :=
  (mSeq (mSet 5 (mBin dIx (mCall dMinL (mCons (mFr c_least_1) mNil)) (mC (.int 1))))
  (mSeq (mDo (mApp (mVar 3) (mBin dIx (mVar 2) (mVar 5))))
  (mSet 2 (mBin dAdd (mSl dSl (mVar 2) mNoP (mPart (mVar 5))) (mSl dSl (mVar 2) (mPart (mBin dAdd (mVar 5) (mC (.int 1)))) mNoP)))))
def l_least_1 : MS := mFor (mRg1 (mCons (mCall dLen (mCons (mVar 1) mNil)) mNil)) (gN 4) l_least_1b
def b_least : MS :=
  (mSeq (mUnp (gsC (gN 2) (gsC (gN 3) gsN)) (mCons (mFr (mL1 seqOf (mVar 1))) (mCons (mNew (mDisp mNil)) mNil)))
  (mSeq l_least_1
  (mRet (mCall dTuple (mCons (mVar 3) mNil)))))
def f_least : FW := fnM false 2 7 b_least
def b_is_pile_of : MS :=
  (mRet (mAndV (mFn f_is_word_of (mCons (mVar 0) (mCons (mVar 1) mNil))) (mBin dEq (mFn f_least (mCons (mVar 0) (mCons (mVar 1) mNil))) (mVar 1))))
def f_is_pile_of : FW := fnM false 2 2 b_is_pile_of
def b_need_pile : MS :=
  (mIfS (mNot (mBool (mFn f_is_pile_of (mCons (mVar 0) (mCons (mVar 1) mNil))))) mNever mNext)
def f_need_pile : FW := fnM false 2 2 b_need_pile
def b_need_two : MS :=
  (mSeq (mDo (mFn f_need_letters (mCons (mVar 0) mNil)))
  (mSeq (mDo (mFn f_need_pile (mCons (mVar 0) (mCons (mVar 1) mNil))))
  (mDo (mFn f_need_pile (mCons (mVar 0) (mCons (mVar 2) mNil))))))
def f_need_two : FW := fnM false 3 3 b_need_two
def l_taken_1b : MS :=
  (mSeq (mIfS (mBool (mBin dEq (mVar 4) (mVar 1))) (mRet (mBin dAdd (mSl dSl (mVar 2) mNoP (mPart (mVar 3))) (mSl dSl (mVar 2) (mPart (mBin dAdd (mVar 3) (mC (.int 1)))) mNoP))) mNext)
  (mIfS (mNot (mBool (mFn f_is_free (mCons (mVar 0) (mCons (mVar 1) (mCons (mVar 4) mNil)))))) (mRet (mC .none)) mNext))
def l_taken_1 : MS := mFor (mEnum (mVar 2)) (gT (gsC (gN 3) (gsC (gN 4) gsN))) l_taken_1b
def b_taken : MS :=
  (mSeq l_taken_1
  (mRet (mC .none)))
def f_taken : FW := fnM false 3 5 b_taken
def l_behind_in_1b : MS :=
  (mSeq (mSet 3 (mFn f_taken (mCons (mVar 0) (mCons (mVar 4) (mCons (mVar 3) mNil)))))
  (mIfS (mBool (mBin dIs (mVar 3) (mC .none))) (mRet (mC .none)) mNext))
def l_behind_in_1 : MS := mFor (mIt (mVar 1)) (gN 4) l_behind_in_1b
def b_behind_in : MS :=
  (mSeq (mSet 3 (mFr (mL1 seqOf (mVar 2))))
  (mSeq l_behind_in_1
  (mRet (mFn f_least (mCons (mVar 0) (mCons (mVar 3) mNil))))))
def f_behind_in : FW := fnM false 3 5 b_behind_in
def c_common_in_1 : M (List PyData) := mLc (mIt (mVar 1)) [4] (gN 4) mYes (mFr (mL1 seqOf (mVar 4)))
def c_common_in_2 : M (List PyData) := mLc (mIt (mVar 2)) [4] (gN 4) mYes (mFn f_taken (mCons (mVar 0) (mCons (mVar 7) (mCons (mVar 4) mNil))))
def c_common_in_3 : M (List PyData) := mLc (mIt (mFr (mL1 dSortSet (mBin dIx (mVar 2) (mC (.int 0)))))) [7] (gN 7) mYes (mFr c_common_in_2)
def c_common_in_4 : M (List PyData) := mLc (mIt (mVar 10)) [4] (gN 4) mYes (mBin dIsN (mVar 4) (mC .none))
def c_common_in_5 : M (List PyData) := mLc (mEnum (mVar 6)) [9, 10] (gT (gsC (gN 9) (gsC (gN 10) gsN))) (mBool (mCall dAll (mCons (mFr c_common_in_4) mNil))) (mVar 9)
def l_common_in_1b : MS :=
  (mSeq (mSet 6 (mFr c_common_in_3))
  (mSeq (mSet 8 (mFr c_common_in_5))
  (mSeq (mIfS (mBool (mBin dEq (mVar 8) (mFr (mDisp mNil)))) mBrk mNext)
  (mSeq (mDo (mApp (mVar 3) (mBin dIx (mFr (mL1 dSortSet (mBin dIx (mVar 2) (mC (.int 0))))) (mBin dIx (mVar 8) (mC (.int 0))))))
  (mSet 2 (mBin dIx (mVar 6) (mBin dIx (mVar 8) (mC (.int 0)))))))))
def l_common_in_1 : MS := mFor (mRg1 (mCons (mCall dLen (mCons (mBin dIx (mVar 2) (mC (.int 0))) mNil)) mNil)) (gN 5) l_common_in_1b
def b_common_in : MS :=
  (mSeq (mUnp (gsC (gN 2) (gsC (gN 3) gsN)) (mCons (mFr c_common_in_1) (mCons (mNew (mDisp mNil)) mNil)))
  (mSeq l_common_in_1
  (mRet (mFn f_least (mCons (mVar 0) (mCons (mVar 3) mNil))))))
def f_common_in : FW := fnM false 2 11 b_common_in
def b_rests_in : MS :=
  (mSeq (mSet 3 (mFn f_common_in (mCons (mVar 0) (mCons (mTup (mCons (mVar 1) (mCons (mVar 2) mNil))) mNil))))
  (mRet (mTup (mCons (mFn f_behind_in (mCons (mVar 0) (mCons (mVar 3) (mCons (mVar 1) mNil)))) (mCons (mFn f_behind_in (mCons (mVar 0) (mCons (mVar 3) (mCons (mVar 2) mNil)))) mNil)))))
def f_rests_in : FW := fnM false 3 4 b_rests_in
def l_above_bar_1b : MS :=
  (mIfS (mNot (mBool (mFn f_is_free (mCons (mVar 0) (mCons (mVar 5) (mCons (mVar 6) mNil)))))) (mRet (mTup (mCons (mVar 5) (mCons (mVar 6) mNil)))) mNext)
def l_above_bar_1 : MS := mFor (mIt (mFr (mL1 dSortSet (mVar 4)))) (gN 6) l_above_bar_1b
def l_above_bar_2b : MS :=
  l_above_bar_1
def l_above_bar_2 : MS := mFor (mIt (mFr (mL1 dSortSet (mVar 3)))) (gN 5) l_above_bar_2b
def b_above_bar : MS :=
  (mSeq (mDo (mFn f_need_two (mCons (mVar 0) (mCons (mVar 1) (mCons (mVar 2) mNil)))))
  (mSeq (mAsg (gT (gsC (gN 3) (gsC (gN 4) gsN))) (mFn f_rests_in (mCons (mVar 0) (mCons (mVar 1) (mCons (mVar 2) mNil)))))
  (mSeq l_above_bar_2
  (mRet (mC .none)))))
def f_above_bar : FW := fnM false 3 7 b_above_bar
def c_apart_in_1 : M (List PyData) := mLc (mIt (mVar 2)) [3] (gN 3) mYes (mFn f_is_free (mCons (mVar 0) (mCons (mVar 4) (mCons (mVar 3) mNil))))
def c_apart_in_2 : M (List PyData) := mLc (mIt (mVar 1)) [4] (gN 4) mYes (mCall dAll (mCons (mFr c_apart_in_1) mNil))
def b_apart_in : MS :=
  (mRet (mCall dAll (mCons (mFr c_apart_in_2) mNil)))
def f_apart_in : FW := fnM false 3 5 b_apart_in
def b_are_apart : MS :=
  (mSeq (mDo (mFn f_need_two (mCons (mVar 0) (mCons (mVar 1) (mCons (mVar 2) mNil)))))
  (mRet (mFn f_apart_in (mCons (mVar 0) (mCons (mVar 1) (mCons (mVar 2) mNil))))))
def f_are_apart : FW := fnM false 3 3 b_are_apart
def l_need_four_1b : MS :=
  (mDo (mFn f_need_pile (mCons (mVar 0) (mCons (mVar 2) mNil))))
def l_need_four_1 : MS := mFor (mIt (mVar 1)) (gN 2) l_need_four_1b
def b_need_four : MS :=
  (mSeq (mDo (mFn f_need_letters (mCons (mVar 0) mNil)))
  l_need_four_1)
def f_need_four : FW := fnM false 2 3 b_need_four
def c_are_four_parts_1 : M (List PyData) := mLc (mIt (mVar 5)) [6] (gN 6) mYes (mFn f_is_pile_of (mCons (mVar 0) (mCons (mVar 6) mNil)))
def c_are_four_parts_2 : M (List PyData) := mLc (mIt (mTup (mCons (mBin dAdd (mVar 7) (mVar 8)) (mCons (mBin dAdd (mVar 9) (mVar 10)) (mCons (mBin dAdd (mVar 7) (mVar 9)) (mCons (mBin dAdd (mVar 8) (mVar 10)) mNil)))))) [6] (gN 6) mYes (mFn f_least (mCons (mVar 0) (mCons (mVar 6) mNil)))
def b_are_four_parts : MS :=
  (mSeq (mDo (mFn f_need_four (mCons (mVar 0) (mCons (mTup (mCons (mVar 1) (mCons (mVar 2) (mCons (mVar 3) (mCons (mVar 4) mNil))))) mNil))))
  (mSeq (mIfS (mOr (mNot (mBool (mFn f_is_tuple_of (mCons (mVar 5) (mCons (mC (.int 4)) (mCons (mC (.int 4)) mNil)))))) (mNot (mBool (mCall dAll (mCons (mFr c_are_four_parts_1) mNil))))) (mRet (mC (.bool false))) mNext)
  (mSeq (mAsg (gT (gsC (gN 7) (gsC (gN 8) (gsC (gN 9) (gsC (gN 10) gsN))))) (mVar 5))
  (mSeq (mSet 11 (mFr c_are_four_parts_2))
  (mRet (mAndV (mBin dEq (mVar 11) (mFr (mDisp (mCons (mVar 1) (mCons (mVar 2) (mCons (mVar 3) (mCons (mVar 4) mNil))))))) (mFn f_apart_in (mCons (mVar 0) (mCons (mVar 8) (mCons (mVar 9) mNil))))))))))
def f_are_four_parts : FW := fnM false 6 12 b_are_four_parts
def b_need_word : MS :=
  (mIfS (mNot (mBool (mFn f_is_word_of (mCons (mVar 0) (mCons (mVar 1) mNil))))) mNever mNext)
def f_need_word : FW := fnM false 2 2 b_need_word
def c_step_in_1 : M (List PyData) := mLc (mRg1 (mCons (mBin dIx (mVar 0) (mC (.int 0))) mNil)) [4] (gN 4) (mOr (mBool (mBin dLt (mVar 4) (mVar 2))) (mBool (mBin dIn (mVar 4) (mVar 1)))) (mVar 4)
def c_step_in_2 : M (List PyData) := mLc (mIt (mVar 3)) [4] (gN 4) (mBool (mFn f_is_free (mCons (mVar 0) (mCons (mVar 4) (mCons (mVar 2) mNil))))) (mVar 4)
def b_step_in : MS :=
  (mSeq (mSet 3 (mFr c_step_in_1))
  (mRet (mCall dTuple (mCons (mFr c_step_in_2) mNil))))
def f_step_in : FW := fnM false 3 5 b_step_in
def l_barred_behind_1b : MS :=
  (mSeq (mIfS (mBool (mBin dIn (mVar 3) (mVar 2))) (mRet (mC .none)) mNext)
  (mSet 2 (mFn f_step_in (mCons (mVar 0) (mCons (mVar 2) (mCons (mVar 3) mNil))))))
def l_barred_behind_1 : MS := mFor (mIt (mVar 1)) (gN 3) l_barred_behind_1b
def b_barred_behind : MS :=
  (mSeq (mDo (mFn f_need_letters (mCons (mVar 0) mNil)))
  (mSeq (mDo (mFn f_need_word (mCons (mVar 0) (mCons (mVar 1) mNil))))
  (mSeq (mSet 2 (mTup mNil))
  (mSeq l_barred_behind_1
  (mRet (mVar 2))))))
def f_barred_behind : FW := fnM false 2 4 b_barred_behind
def c_need_piles_1 : M (List PyData) := mLc (mIt (mVar 1)) [2] (gN 2) mYes (mFn f_is_pile_of (mCons (mVar 0) (mCons (mVar 2) mNil)))
def b_need_piles : MS :=
  (mIfS (mOr (mNot (mBool (mFn f_is_tuple_of (mCons (mVar 1) (mCons (mC (.int 1)) (mCons (mC (.int 10)) mNil)))))) (mNot (mBool (mCall dAll (mCons (mFr c_need_piles_1) mNil))))) mNever mNext)
def f_need_piles : FW := fnM false 2 3 b_need_piles
def b_need_all : MS :=
  (mSeq (mDo (mFn f_need_letters (mCons (mVar 0) mNil)))
  (mDo (mFn f_need_piles (mCons (mVar 0) (mCons (mVar 1) mNil)))))
def f_need_all : FW := fnM false 2 2 b_need_all
def b_common_beginning : MS :=
  (mSeq (mDo (mFn f_need_all (mCons (mVar 0) (mCons (mVar 1) mNil))))
  (mRet (mFn f_common_in (mCons (mVar 0) (mCons (mVar 1) mNil)))))
def f_common_beginning : FW := fnM false 2 2 b_common_beginning
def b_are_alike_in : MS :=
  (mRet (mBin dEq (mFn f_least (mCons (mVar 0) (mCons (mBin dAdd (mVar 1) (mVar 2)) mNil))) (mFn f_least (mCons (mVar 0) (mCons (mBin dAdd (mVar 3) (mVar 4)) mNil)))))
def f_are_alike_in : FW := fnM false 5 5 b_are_alike_in
def b_need_joins : MS :=
  (mSeq (mDo (mFn f_need_four (mCons (mVar 0) (mCons (mTup (mCons (mVar 1) (mCons (mVar 2) (mCons (mVar 3) (mCons (mVar 4) mNil))))) mNil))))
  (mIfS (mNot (mBool (mFn f_are_alike_in (mCons (mVar 0) (mCons (mVar 1) (mCons (mVar 2) (mCons (mVar 3) (mCons (mVar 4) mNil)))))))) mNever mNext))
def f_need_joins : FW := fnM false 5 5 b_need_joins
def b_parts_in : MS :=
  (mSeq (mSet 5 (mFn f_common_in (mCons (mVar 0) (mCons (mTup (mCons (mVar 1) (mCons (mVar 3) mNil))) mNil))))
  (mSeq (mPar 6 7 (mCons (mFn f_behind_in (mCons (mVar 0) (mCons (mVar 5) (mCons (mVar 1) mNil)))) (mCons (mFn f_behind_in (mCons (mVar 0) (mCons (mVar 5) (mCons (mVar 3) mNil)))) mNil)))
  (mRet (mTup (mCons (mVar 5) (mCons (mVar 6) (mCons (mVar 7) (mCons (mFn f_behind_in (mCons (mVar 0) (mCons (mVar 7) (mCons (mVar 2) mNil)))) mNil))))))))
def f_parts_in : FW := fnM false 5 8 b_parts_in
def b_four_parts : MS :=
  (mSeq (mDo (mFn f_need_joins (mCons (mVar 0) (mCons (mVar 1) (mCons (mVar 2) (mCons (mVar 3) (mCons (mVar 4) mNil)))))))
  (mRet (mFn f_parts_in (mCons (mVar 0) (mCons (mVar 1) (mCons (mVar 2) (mCons (mVar 3) (mCons (mVar 4) mNil))))))))
def f_four_parts : FW := fnM false 5 5 b_four_parts
def b_every_letter : MS :=
  (mRet (mTupRg (mBin dIx (mVar 0) (mC (.int 0)))))
def f_every_letter : FW := fnM false 1 1 b_every_letter
def c_sets_in_1 : M (List PyData) := mLc (mIt (mVar 4)) [5] (gN 5) mYes (mFn f_is_free (mCons (mVar 0) (mCons (mVar 3) (mCons (mVar 5) mNil))))
def c_sets_in_2 : M (List PyData) := mLc (mIt (mVar 2)) [4] (gN 4) (mBool (mCall dAll (mCons (mFr c_sets_in_1) mNil))) (mBin dAdd (mVar 4) (mTup (mCons (mVar 3) mNil)))
def l_sets_in_1b : MS :=
  (mSet 2 (mBin dAdd (mVar 2) (mFr c_sets_in_2)))
def l_sets_in_1 : MS := mFor (mIt (mVar 1)) (gN 3) l_sets_in_1b
def b_sets_in : MS :=
  (mSeq (mSet 2 (mFr (mDisp (mCons (mTup mNil) mNil))))
  (mSeq l_sets_in_1
  (mRet (mFr (mL1 dSorted (mVar 2))))))
def f_sets_in : FW := fnM false 2 6 b_sets_in
def b_free_sets : MS :=
  (mSeq (mDo (mFn f_need_letters (mCons (mVar 0) mNil)))
  (mRet (mCall dTuple (mCons (mFn f_sets_in (mCons (mVar 0) (mCons (mFn f_every_letter (mCons (mVar 0) mNil)) mNil))) mNil))))
def f_free_sets : FW := fnM false 1 1 b_free_sets
def c_is_some_1 : M (List PyData) := mLc (mIt (mVar 1)) [2] (gN 2) mYes (mFn f_is_whole (mCons (mVar 2) (mCons (mC (.int 0)) (mCons (mBin dSub (mBin dIx (mVar 0) (mC (.int 0))) (mC (.int 1))) mNil))))
def c_is_some_2 : M (List PyData) := mLc (mRg1 (mCons (mBin dSub (mCall dLen (mCons (mVar 1) mNil)) (mC (.int 1))) mNil)) [3] (gN 3) mYes (mBin dLt (mBin dIx (mVar 1) (mVar 3)) (mBin dIx (mVar 1) (mBin dAdd (mVar 3) (mC (.int 1)))))
def b_is_some : MS :=
  (mSeq (mIfS (mOr (mNot (mBool (mFn f_is_tuple_of (mCons (mVar 1) (mCons (mC (.int 0)) (mCons (mBin dIx (mVar 0) (mC (.int 0))) mNil)))))) (mNot (mBool (mCall dAll (mCons (mFr c_is_some_1) mNil))))) (mRet (mC (.bool false))) mNext)
  (mRet (mCall dAll (mCons (mFr c_is_some_2) mNil))))
def f_is_some : FW := fnM false 2 4 b_is_some
def c_is_free_in_1 : M (List PyData) := mLc (mIt (mSl dSl (mVar 1) mNoP (mPart (mVar 3)))) [2] (gN 2) mYes (mFn f_is_free (mCons (mVar 0) (mCons (mVar 4) (mCons (mVar 2) mNil))))
def c_is_free_in_2 : M (List PyData) := mLc (mEnum (mVar 1)) [3, 4] (gT (gsC (gN 3) (gsC (gN 4) gsN))) mYes (mCall dAll (mCons (mFr c_is_free_in_1) mNil))
def b_is_free_in : MS :=
  (mSeq (mIfS (mNot (mBool (mFn f_is_some (mCons (mVar 0) (mCons (mVar 1) mNil))))) (mRet (mC (.bool false))) mNext)
  (mRet (mCall dAll (mCons (mFr c_is_free_in_2) mNil))))
def f_is_free_in : FW := fnM false 2 5 b_is_free_in
def b_is_free_set : MS :=
  (mSeq (mDo (mFn f_need_letters (mCons (mVar 0) mNil)))
  (mRet (mFn f_is_free_in (mCons (mVar 0) (mCons (mVar 1) mNil)))))
def f_is_free_set : FW := fnM false 2 2 b_is_free_set
def b_joined_pile : MS :=
  (mSeq (mDo (mFn f_need_letters (mCons (mVar 0) mNil)))
  (mSeq (mDo (mFn f_need_pile (mCons (mVar 0) (mCons (mVar 1) mNil))))
  (mSeq (mDo (mFn f_need_pile (mCons (mVar 0) (mCons (mVar 2) mNil))))
  (mRet (mFn f_least (mCons (mVar 0) (mCons (mBin dAdd (mVar 1) (mVar 2)) mNil)))))))
def f_joined_pile : FW := fnM false 3 3 b_joined_pile
def b_above_in : MS :=
  (mSeq (mAsg (gT (gsC (gN 3) (gsC (gN 4) gsN))) (mFn f_rests_in (mCons (mVar 0) (mCons (mVar 1) (mCons (mVar 2) mNil)))))
  (mRet (mIf (mBool (mFn f_apart_in (mCons (mVar 0) (mCons (mVar 3) (mCons (mVar 4) mNil))))) (mFn f_least (mCons (mVar 0) (mCons (mBin dAdd (mVar 1) (mVar 4)) mNil))) (mC .none))))
def f_above_in : FW := fnM false 3 5 b_above_in
def l_above_all_in_1b : MS :=
  (mSeq (mSet 2 (mFn f_above_in (mCons (mVar 0) (mCons (mVar 2) (mCons (mVar 3) mNil)))))
  (mIfS (mBool (mBin dIs (mVar 2) (mC .none))) (mRet (mC .none)) mNext))
def l_above_all_in_1 : MS := mFor (mIt (mSl dSl (mVar 1) (mPart (mC (.int 1))) mNoP)) (gN 3) l_above_all_in_1b
def b_above_all_in : MS :=
  (mSeq (mSet 2 (mBin dIx (mVar 1) (mC (.int 0))))
  (mSeq l_above_all_in_1
  (mRet (mVar 2))))
def f_above_all_in : FW := fnM false 2 4 b_above_all_in
def b_pile_above : MS :=
  (mSeq (mDo (mFn f_need_all (mCons (mVar 0) (mCons (mVar 1) mNil))))
  (mRet (mFn f_above_all_in (mCons (mVar 0) (mCons (mVar 1) mNil)))))
def f_pile_above : FW := fnM false 2 2 b_pile_above
def c__law_above_right_1 : M (List PyData) := mLc (mRg1 (mCons (mBin dIx (mVar 1) (mC (.int 0))) mNil)) [3] (gN 3) (mBool (mBin dEq (mFn f__law_roll (mCons (mVar 0) (mCons (mC (.int 2)) mNil))) (mC (.int 0)))) (mVar 3)
def c__law_above_right_2 : M (List PyData) := mLc (mIt (mVar 2)) [5] (gN 5) mYes (mTup (mCons (mVar 5) mNil))
def c__law_above_right_3 : M (List PyData) := mLc (mIt (mVar 7)) [5] (gN 5) (mBool (mBin dNin (mVar 5) (mVar 6))) (mVar 5)
def c__law_above_right_4 : M (List PyData) := mLc (mIt (mVar 6)) [5] (gN 5) (mBool (mBin dIn (mVar 5) (mVar 7))) (mVar 5)
def c__law_above_right_5 : M (List PyData) := mLc (mIt (mVar 6)) [5] (gN 5) (mBool (mBin dNin (mVar 5) (mVar 7))) (mVar 5)
def b__law_above_right : MS :=
  (mSeq (mSet 1 (mFn f__law_letters (mCons (mVar 0) (mCons (mC (.int 6)) mNil))))
  (mSeq (mSet 2 (mCall dTuple (mCons (mFr c__law_above_right_1) mNil)))
  (mSeq (mSet 4 (mIf (mBool (mBin dIn (mVar 2) (mFn f_free_sets (mCons (mVar 1) mNil)))) (mVar 2) (mC .none)))
  (mSeq (mIfS (mAnd (mBool (mBin dNe (mVar 2) (mTup mNil))) (mNot (mBool (mFn f__law_like (mCons (mFn f_pile_above (mCons (mVar 1) (mCons (mCall dTuple (mCons (mFr c__law_above_right_2) mNil)) mNil))) (mCons (mVar 4) mNil)))))) (mRet (mC (.bool false))) mNext)
  (mSeq (mUnp (gsC (gN 6) (gsC (gN 7) gsN)) (mCons (mFn f__law_some (mCons (mVar 0) (mCons (mFr (mL1 seqOf (mFn f_free_sets (mCons (mVar 1) mNil)))) mNil))) (mCons (mFn f__law_some (mCons (mVar 0) (mCons (mFr (mL1 seqOf (mFn f_free_sets (mCons (mVar 1) mNil)))) mNil))) mNil)))
  (mSeq (mSet 8 (mCall dTuple (mCons (mFr (mL1 dSorted (mBin dAdd (mVar 6) (mCall dTuple (mCons (mFr c__law_above_right_3) mNil))))) mNil)))
  (mSeq (mIfS (mNot (mBool (mFn f__law_like (mCons (mFr (mDisp (mCons (mFn f_pile_above (mCons (mVar 1) (mCons (mTup (mCons (mVar 6) (mCons (mVar 7) mNil))) mNil))) (mCons (mBin dIs (mFn f_above_bar (mCons (mVar 1) (mCons (mVar 6) (mCons (mVar 7) mNil)))) (mC .none)) mNil)))) (mCons (mFr (mDisp (mCons (mIf (mBool (mFn f_is_free_set (mCons (mVar 1) (mCons (mVar 8) mNil)))) (mVar 8) (mC .none)) (mCons (mFn f_is_free_set (mCons (mVar 1) (mCons (mVar 8) mNil))) mNil)))) mNil))))) (mRet (mC (.bool false))) mNext)
  (mSeq (mSet 9 (mCall dTuple (mCons (mFr c__law_above_right_4) mNil)))
  (mSeq (mIfS (mNot (mBool (mFn f__law_like (mCons (mFn f_common_beginning (mCons (mVar 1) (mCons (mTup (mCons (mVar 6) (mCons (mVar 7) mNil))) mNil))) (mCons (mVar 9) mNil))))) (mRet (mC (.bool false))) mNext)
  (mSeq (mIfS (mNot (mBool (mFn f_is_free_set (mCons (mVar 1) (mCons (mVar 8) mNil))))) (mRet (mC (.bool true))) mNext)
  (mSeq (mSet 10 (mCall dTuple (mCons (mFr c__law_above_right_5) mNil)))
  (mSeq (mIfS (mNot (mBool (mFn f__law_like (mCons (mFr (mDisp (mCons (mFn f_are_apart (mCons (mVar 1) (mCons (mVar 10) (mCons (mVar 7) mNil)))) (mCons (mFn f_joined_pile (mCons (mVar 1) (mCons (mVar 10) (mCons (mVar 7) mNil)))) (mCons (mBin dIsN (mFn f_barred_behind (mCons (mVar 1) (mCons (mVar 8) mNil))) (mC .none)) mNil))))) (mCons (mFr (mDisp (mCons (mC (.bool true)) (mCons (mVar 8) (mCons (mC (.bool true)) mNil))))) mNil))))) (mRet (mC (.bool false))) mNext)
  (mSeq (mSet 11 (mFn f_four_parts (mCons (mVar 1) (mCons (mVar 10) (mCons (mVar 7) (mCons (mVar 7) (mCons (mVar 10) mNil)))))))
  (mRet (mAndV (mBin dIs (mFn f_are_four_parts (mCons (mVar 1) (mCons (mVar 10) (mCons (mVar 7) (mCons (mVar 7) (mCons (mVar 10) (mCons (mVar 11) mNil))))))) (mC (.bool true))) (mBin dEq (mVar 11) (mTup (mCons (mTup mNil) (mCons (mVar 10) (mCons (mVar 7) (mCons (mTup mNil) mNil)))))))))))))))))))))
def f__law_above_right : FW := fnM false 1 12 b__law_above_right
def c_kept_places_1 : M (List PyData) := mLc (mEnum (mVar 0)) [2, 3] (gT (gsC (gN 2) (gsC (gN 3) gsN))) (mBool (mBin dEq (mBin dBand (mBin dShr (mVar 1) (mVar 2)) (mC (.int 1))) (mC (.int 1)))) (mVar 3)
def b_kept_places : MS :=
  (mRet (mCall dTuple (mCons (mFr c_kept_places_1) mNil)))
def f_kept_places : FW := fnM false 2 4 b_kept_places
def l_next_bits_1b : MS :=
  (mIfS (mAnd (mBool (mBin dEq (mBin dBand (mBin dShr (mVar 1) (mVar 3)) (mC (.int 1))) (mC (.int 0)))) (mBool (mBin dEq (mBin dBand (mVar 4) (mVar 1)) (mVar 4)))) (mDo (mApp (mVar 2) (mBin dBor (mVar 1) (mBin dShl (mC (.int 1)) (mVar 3))))) mNext)
def l_next_bits_1 : MS := mFor (mEnum (mVar 0)) (gT (gsC (gN 3) (gsC (gN 4) gsN))) l_next_bits_1b
def b_next_bits : MS :=
  (mSeq (mSet 2 (mNew (mDisp mNil)))
  (mSeq l_next_bits_1
  (mRet (mVar 2))))
def f_next_bits : FW := fnM false 2 5 b_next_bits
def c_tied_below_1 : M (List PyData) := mLc (mRg1 (mCons (mVar 3) mNil)) [5] (gN 5) (mNot (mBool (mFn f_is_free (mCons (mVar 0) (mCons (mBin dIx (mVar 1) (mVar 5)) (mCons (mVar 4) mNil)))))) (mBin dShl (mC (.int 1)) (mVar 5))
def l_tied_below_1b : MS :=
  (mDo (mApp (mVar 2) (mCall dSum (mCons (mFr c_tied_below_1) mNil))))
def l_tied_below_1 : MS := mFor (mEnum (mVar 1)) (gT (gsC (gN 3) (gsC (gN 4) gsN))) l_tied_below_1b
def b_tied_below : MS :=
  (mSeq (mSet 2 (mNew (mDisp mNil)))
  (mSeq l_tied_below_1
  (mRet (mVar 2))))
def f_tied_below : FW := fnM false 2 6 b_tied_below
def l_levels_in_1b : MS :=
  (mPut (mVar 6) (mVar 8) (mC (.bool true)))
def l_levels_in_1 : MS := mFor (mIt (mFn f_next_bits (mCons (mVar 2) (mCons (mVar 7) mNil)))) (gN 8) l_levels_in_1b
def l_levels_in_2b : MS :=
  l_levels_in_1
def l_levels_in_2 : MS := mFor (mIt (mBin dIx (mVar 3) (mNeg (mC (.int 1))))) (gN 7) l_levels_in_2b
def l_levels_in_3b : MS :=
  (mSeq (mSet 6 (mDic0 false))
  (mSeq l_levels_in_2
  (mSeq (mSet 4 (mBin dAdd (mVar 4) (mLenD (mVar 6))))
  (mSeq (mIfS (mBool (mBin dGt (mVar 4) (mC (.int 2000)))) mNever mNext)
  (mDo (mApp (mVar 3) (mFr (mListD (mVar 6)))))))))
def l_levels_in_3 : MS := mFor (mRg1 (mCons (mCall dLen (mCons (mVar 1) mNil)) mNil)) (gN 5) l_levels_in_3b
def b_levels_in : MS :=
  (mSeq (mPar3 2 3 4 (mCons (mFn f_tied_below (mCons (mVar 0) (mCons (mVar 1) mNil))) (mCons (mNew (mDisp (mCons (mFr (mDisp (mCons (mC (.int 0)) mNil))) mNil))) (mCons (mC (.int 1)) mNil))))
  (mSeq l_levels_in_3
  (mRet (mVar 3))))
def f_levels_in : FW := fnM false 2 9 b_levels_in
def c_beginnings_in_1 : M (List PyData) := mLc (mIt (mVar 3)) [4] (gN 4) mYes (mFn f_kept_places (mCons (mVar 1) (mCons (mVar 4) mNil)))
def l_beginnings_in_1b : MS :=
  (mSet 2 (mBin dAdd (mVar 2) (mFr (mL1 dSorted (mFr c_beginnings_in_1)))))
def l_beginnings_in_1 : MS := mFor (mIt (mFn f_levels_in (mCons (mVar 0) (mCons (mVar 1) mNil)))) (gN 3) l_beginnings_in_1b
def b_beginnings_in : MS :=
  (mSeq (mSet 2 (mFr (mDisp mNil)))
  (mSeq l_beginnings_in_1
  (mRet (mVar 2))))
def f_beginnings_in : FW := fnM false 2 5 b_beginnings_in
def b_need_one : MS :=
  (mSeq (mDo (mFn f_need_letters (mCons (mVar 0) mNil)))
  (mDo (mFn f_need_pile (mCons (mVar 0) (mCons (mVar 1) mNil)))))
def f_need_one : FW := fnM false 2 2 b_need_one
def b_turned_round : MS :=
  (mRet (mFn f_least (mCons (mVar 0) (mCons (mRev (mVar 1)) mNil))))
def f_turned_round : FW := fnM false 2 2 b_turned_round
def c_endings_of_1 : M (List PyData) := mLc (mIt (mFn f_beginnings_in (mCons (mVar 0) (mCons (mFn f_turned_round (mCons (mVar 0) (mCons (mVar 1) mNil))) mNil)))) [3] (gN 3) mYes (mFn f_turned_round (mCons (mVar 0) (mCons (mVar 3) mNil)))
def c_endings_of_2 : M (List PyData) := mLc (mIt (mVar 2)) [3] (gN 3) mYes (mTup (mCons (mCall dLen (mCons (mVar 3) mNil)) (mCons (mVar 3) mNil)))
def c_endings_of_3 : M (List PyData) := mLc (mIt (mFr (mL1 dSorted (mFr c_endings_of_2)))) [4, 3] (gT (gsC (gN 4) (gsC (gN 3) gsN))) mYes (mVar 3)
def b_endings_of : MS :=
  (mSeq (mDo (mFn f_need_one (mCons (mVar 0) (mCons (mVar 1) mNil))))
  (mSeq (mSet 2 (mFr c_endings_of_1))
  (mRet (mCall dTuple (mCons (mFr c_endings_of_3) mNil)))))
def f_endings_of : FW := fnM false 2 5 b_endings_of
def b_is_beginning : MS :=
  (mSeq (mDo (mFn f_need_two (mCons (mVar 0) (mCons (mVar 1) (mCons (mVar 2) mNil)))))
  (mRet (mBin dIsN (mFn f_behind_in (mCons (mVar 0) (mCons (mVar 1) (mCons (mVar 2) mNil)))) (mC .none))))
def f_is_beginning : FW := fnM false 3 3 b_is_beginning
def b_ahead_in : MS :=
  (mSeq (mSet 3 (mFn f_behind_in (mCons (mVar 0) (mCons (mRev (mVar 1)) (mCons (mRev (mVar 2)) mNil)))))
  (mRet (mIf (mBool (mBin dIsN (mVar 3) (mC .none))) (mFn f_turned_round (mCons (mVar 0) (mCons (mVar 3) mNil))) (mC .none))))
def f_ahead_in : FW := fnM false 3 4 b_ahead_in
def b_is_ending : MS :=
  (mSeq (mDo (mFn f_need_two (mCons (mVar 0) (mCons (mVar 1) (mCons (mVar 2) mNil)))))
  (mRet (mBin dIsN (mFn f_ahead_in (mCons (mVar 0) (mCons (mVar 1) (mCons (mVar 2) mNil)))) (mC .none))))
def f_is_ending : FW := fnM false 3 3 b_is_ending
def c_tops_in_1 : M (List PyData) := mLc (mIt (mSl dSl (mVar 1) (mPart (mBin dAdd (mVar 3) (mC (.int 1)))) mNoP)) [5] (gN 5) mYes (mFn f_is_free (mCons (mVar 0) (mCons (mVar 4) (mCons (mVar 5) mNil))))
def l_tops_in_1b : MS :=
  (mIfS (mBool (mCall dAll (mCons (mFr c_tops_in_1) mNil))) (mDo (mApp (mVar 2) (mVar 4))) mNext)
def l_tops_in_1 : MS := mFor (mEnum (mVar 1)) (gT (gsC (gN 3) (gsC (gN 4) gsN))) l_tops_in_1b
def b_tops_in : MS :=
  (mSeq (mSet 2 (mNew (mDisp mNil)))
  (mSeq l_tops_in_1
  (mRet (mVar 2))))
def f_tops_in : FW := fnM false 2 6 b_tops_in
def b_is_pointed : MS :=
  (mSeq (mDo (mFn f_need_letters (mCons (mVar 0) mNil)))
  (mSeq (mDo (mFn f_need_pile (mCons (mVar 0) (mCons (mVar 1) mNil))))
  (mRet (mBin dEq (mCall dLen (mCons (mFn f_tops_in (mCons (mVar 0) (mCons (mVar 1) mNil))) mNil)) (mC (.int 1))))))
def f_is_pointed : FW := fnM false 2 2 b_is_pointed
def b_left_ahead : MS :=
  (mSeq (mDo (mFn f_need_two (mCons (mVar 0) (mCons (mVar 1) (mCons (mVar 2) mNil)))))
  (mSeq (mSet 3 (mFn f_ahead_in (mCons (mVar 0) (mCons (mVar 1) (mCons (mVar 2) mNil)))))
  (mSeq (mIfS (mBool (mBin dIs (mVar 3) (mC .none))) mNever mNext)
  (mRet (mVar 3)))))
def f_left_ahead : FW := fnM false 3 4 b_left_ahead
def b_left_behind : MS :=
  (mSeq (mDo (mFn f_need_two (mCons (mVar 0) (mCons (mVar 1) (mCons (mVar 2) mNil)))))
  (mSeq (mSet 3 (mFn f_behind_in (mCons (mVar 0) (mCons (mVar 1) (mCons (mVar 2) mNil)))))
  (mSeq (mIfS (mBool (mBin dIs (mVar 3) (mC .none))) mNever mNext)
  (mRet (mVar 3)))))
def f_left_behind : FW := fnM false 3 4 b_left_behind
def c_sign_in_1 : M (List PyData) := mLc (mIt (mFn f_sets_in (mCons (mVar 0) (mCons (mVar 1) mNil)))) [3] (gN 3) mYes (mCall dLen (mCons (mVar 3) mNil))
def c_sign_in_2 : M (List PyData) := mLc (mRg1 (mCons (mBin dAdd (mCall dMaxL (mCons (mVar 2) mNil)) (mC (.int 1))) mNil)) [4] (gN 4) mYes (mBin dMul (mCnt' (mVar 2) (mVar 4)) (mIf (mBool (mBin dEq (mBin dMod (mCall dInt (mCons (mVar 4) mNil)) (mC (.int 2))) (mC (.int 0)))) (mC (.int 1)) (mNeg (mC (.int 1)))))
def b_sign_in : MS :=
  (mSeq (mSet 2 (mFr c_sign_in_1))
  (mRet (mCall dTuple (mCons (mFr c_sign_in_2) mNil))))
def f_sign_in : FW := fnM false 2 5 b_sign_in
def l_counts_in_1b : MS :=
  (mSet 5 (mBin dSub (mVar 5) (mBin dMul (mBin dIx (mVar 2) (mVar 6)) (mBin dIx (mVar 3) (mBin dSub (mVar 4) (mVar 6))))))
def l_counts_in_1 : MS := mFor (mRg2 (mCons (mC (.int 1)) (mCons (mBin dAdd (mCall dMin2 (mCons (mVar 4) (mCons (mBin dSub (mCall dLen (mCons (mVar 2) mNil)) (mC (.int 1))) mNil))) (mC (.int 1))) mNil))) (gN 6) l_counts_in_1b
def l_counts_in_2b : MS :=
  (mSeq (mSet 5 (mIf (mBool (mBin dEq (mVar 4) (mC (.int 0)))) (mC (.int 1)) (mC (.int 0))))
  (mSeq l_counts_in_1
  (mDo (mApp (mVar 3) (mVar 5)))))
def l_counts_in_2 : MS := mFor (mRg1 (mCons (mBin dAdd (mVar 1) (mC (.int 1))) mNil)) (gN 4) l_counts_in_2b
def b_counts_in : MS :=
  (mSeq (mPar 2 3 (mCons (mFn f_sign_in (mCons (mVar 0) (mCons (mFn f_every_letter (mCons (mVar 0) mNil)) mNil))) (mCons (mNew (mDisp mNil)) mNil)))
  (mSeq l_counts_in_2
  (mRet (mVar 3))))
def f_counts_in : FW := fnM false 2 7 b_counts_in
def b_need_whole : MS :=
  (mIfS (mNot (mBool (mFn f_is_whole (mCons (mVar 0) (mCons (mVar 1) (mCons (mVar 2) mNil)))))) mNever mNext)
def f_need_whole : FW := fnM false 3 3 b_need_whole
def b_pile_counts : MS :=
  (mSeq (mDo (mFn f_need_letters (mCons (mVar 0) mNil)))
  (mSeq (mDo (mFn f_need_whole (mCons (mVar 1) (mCons (mC (.int 0)) (mCons (mC (.int 60)) mNil)))))
  (mRet (mCall dTuple (mCons (mFn f_counts_in (mCons (mVar 0) (mCons (mVar 1) mNil))) mNil)))))
def f_pile_counts : FW := fnM false 2 2 b_pile_counts
def l_piles_of_length_1b : MS :=
  (mIfS (mBool (mBin dNin (mVar 7) (mVar 6))) (mDo (mApp (mVar 4) (mTup (mCons (mBin dAdd (mVar 5) (mTup (mCons (mVar 7) mNil))) (mCons (mFn f_step_in (mCons (mVar 0) (mCons (mVar 6) (mCons (mVar 7) mNil)))) mNil))))) mNext)
def l_piles_of_length_1 : MS := mFor (mRg1 (mCons (mBin dIx (mVar 0) (mC (.int 0))) mNil)) (gN 7) l_piles_of_length_1b
def l_piles_of_length_2b : MS :=
  l_piles_of_length_1
def l_piles_of_length_2 : MS := mFor (mIt (mVar 2)) (gT (gsC (gN 5) (gsC (gN 6) gsN))) l_piles_of_length_2b
def l_piles_of_length_3b : MS :=
  (mSeq (mSet 4 (mNew (mDisp mNil)))
  (mSeq l_piles_of_length_2
  (mSet 2 (mVar 4))))
def l_piles_of_length_3 : MS := mFor (mRg1 (mCons (mVar 1) mNil)) (gN 3) l_piles_of_length_3b
def c_piles_of_length_1 : M (List PyData) := mLc (mIt (mVar 2)) [5, 6] (gT (gsC (gN 5) (gsC (gN 6) gsN))) mYes (mVar 5)
def b_piles_of_length : MS :=
  (mSeq (mDo (mFn f_need_letters (mCons (mVar 0) mNil)))
  (mSeq (mDo (mFn f_need_whole (mCons (mVar 1) (mCons (mC (.int 0)) (mCons (mC (.int 60)) mNil)))))
  (mSeq (mIfS (mBool (mBin dGt (mBin dIx (mFn f_counts_in (mCons (mVar 0) (mCons (mVar 1) mNil))) (mNeg (mC (.int 1)))) (mC (.int 2000)))) mNever mNext)
  (mSeq (mSet 2 (mFr (mDisp (mCons (mTup (mCons (mTup mNil) (mCons (mTup mNil) mNil))) mNil))))
  (mSeq l_piles_of_length_3
  (mRet (mCall dTuple (mCons (mFr c_piles_of_length_1) mNil))))))))
def f_piles_of_length : FW := fnM false 2 8 b_piles_of_length
def c__law_counts_right_1 : M (List PyData) := mLc (mIt (mVar 3)) [8] (gN 8) (mBool (mFn f_is_beginning (mCons (mVar 1) (mCons (mVar 5) (mCons (mVar 8) mNil))))) (mVar 8)
def c__law_counts_right_2 : M (List PyData) := mLc (mIt (mVar 3)) [8] (gN 8) (mBool (mFn f_is_ending (mCons (mVar 1) (mCons (mVar 5) (mCons (mVar 8) mNil))))) (mVar 8)
def c__law_counts_right_3 : M (List PyData) := mLc (mIt (mVar 6)) [8] (gN 8) mYes (mFn f_left_behind (mCons (mVar 1) (mCons (mVar 5) (mCons (mVar 8) mNil))))
def c__law_counts_right_4 : M (List PyData) := mLc (mIt (mVar 7)) [8] (gN 8) mYes (mFn f_left_ahead (mCons (mVar 1) (mCons (mVar 5) (mCons (mVar 8) mNil))))
def c__law_counts_right_5 : M (List PyData) := mLc (mIt (mFn f_endings_of (mCons (mVar 1) (mCons (mVar 8) mNil)))) [11] (gN 11) (mBool (mBin dEq (mCall dLen (mCons (mVar 11) mNil)) (mC (.int 1)))) (mVar 11)
def l__law_counts_right_1b : MS :=
  (mSeq (mSet 10 (mFr c__law_counts_right_5))
  (mIfS (mBool (mBin dNe (mBin dEq (mCall dLen (mCons (mVar 10) mNil)) (mC (.int 1))) (mFn f_is_pointed (mCons (mVar 1) (mCons (mVar 8) mNil))))) (mRet (mC (.bool false))) mNext))
def l__law_counts_right_1 : MS := mFor (mIt (mVar 3)) (gN 8) l__law_counts_right_1b
def b__law_counts_right : MS :=
  (mSeq (mSet 1 (mFn f__law_letters (mCons (mVar 0) (mCons (mC (.int 4)) mNil))))
  (mSeq (mSet 2 (mBin dAdd (mC (.int 1)) (mFn f__law_roll (mCons (mVar 0) (mCons (mIf (mBool (mBin dLt (mBin dIx (mVar 1) (mC (.int 0))) (mC (.int 4)))) (mC (.int 4)) (mC (.int 3))) mNil)))))
  (mSeq (mPar 3 4 (mCons (mFn f_piles_of_length (mCons (mVar 1) (mCons (mVar 2) mNil))) (mCons (mFn f_pile_counts (mCons (mVar 1) (mCons (mVar 2) mNil))) mNil)))
  (mSeq (mSet 5 (mFn f__law_some (mCons (mVar 0) (mCons (mFr (mL1 seqOf (mFn f_piles_of_length (mCons (mVar 1) (mCons (mFn f__law_roll (mCons (mVar 0) (mCons (mBin dAdd (mVar 2) (mC (.int 1))) mNil))) mNil))))) mNil))))
  (mSeq (mPar 6 7 (mCons (mFr c__law_counts_right_1) (mCons (mFr c__law_counts_right_2) mNil)))
  (mSeq (mIfS (mNot (mBool (mFn f__law_like (mCons (mFr (mDisp (mCons (mCall dLen (mCons (mVar 6) mNil)) (mCons (mCall dLen (mCons (mVar 7) mNil)) mNil)))) (mCons (mBin dMul (mFr (mDisp (mCons (mBin dIx (mVar 4) (mBin dSub (mVar 2) (mCall dLen (mCons (mVar 5) mNil)))) mNil))) (mC (.int 2))) mNil))))) (mRet (mC (.bool false))) mNext)
  (mSeq (mSet 9 (mFr (mL1 dSorted (mFr c__law_counts_right_3))))
  (mSeq (mIfS (mNot (mBool (mFn f__law_like (mCons (mFr (mDisp (mCons (mVar 9) (mCons (mFr (mL1 dSorted (mFr c__law_counts_right_4))) mNil)))) (mCons (mBin dMul (mFr (mDisp (mCons (mFr (mL1 seqOf (mFn f_piles_of_length (mCons (mVar 1) (mCons (mBin dSub (mVar 2) (mCall dLen (mCons (mVar 5) mNil))) mNil))))) mNil))) (mC (.int 2))) mNil))))) (mRet (mC (.bool false))) mNext)
  (mSeq l__law_counts_right_1
  (mRet (mC (.bool true))))))))))))
def f__law_counts_right : FW := fnM false 1 12 b__law_counts_right
def b__law_cup : MS :=
  (mSeq (mSet 1 (mCall dAbs (mCons (mBin dIx (mBin dAdd (mFr (mListS (mVar 0))) (mFr (mDisp (mCons (mC (.int 0)) mNil)))) (mC (.int 0))) mNil)))
  (mRet (mNew (mDisp (mCons (mIf (mBool (mBin dGe (mVar 1) (mBin dPow (mC (.int 10)) (mC (.int 18))))) (mBin dFdiv (mVar 1) (mC (.int 331))) (mC (.int 0))) (mCons (mBin dMod (mCall dInt (mCons (mBin dAdd (mBin dMul (mVar 1) (mC (.int 1103))) (mC (.int 101747))) mNil)) (mC (.int 1048576))) mNil))))))
def f__law_cup : FW := fnM true 1 2 b__law_cup
def c__law_all_sets_1 : M (List PyData) := mLc (mIt (mVar 1)) [3] (gN 3) mYes (mBin dAdd (mVar 3) (mTup (mCons (mVar 2) mNil)))
def l__law_all_sets_1b : MS :=
  (mSet 1 (mBin dAdd (mVar 1) (mFr c__law_all_sets_1)))
def l__law_all_sets_1 : MS := mFor (mIt (mVar 0)) (gN 2) l__law_all_sets_1b
def b__law_all_sets : MS :=
  (mSeq (mSet 1 (mFr (mDisp (mCons (mTup mNil) mNil))))
  (mSeq l__law_all_sets_1
  (mRet (mFr (mL1 dSorted (mVar 1))))))
def f__law_all_sets : FW := fnM false 1 4 b__law_all_sets
def b_beginnings_of : MS :=
  (mSeq (mDo (mFn f_need_one (mCons (mVar 0) (mCons (mVar 1) mNil))))
  (mRet (mCall dTuple (mCons (mFn f_beginnings_in (mCons (mVar 0) (mCons (mVar 1) mNil))) mNil))))
def f_beginnings_of : FW := fnM false 2 2 b_beginnings_of
def c__law_signs_right_1 : M (List PyData) := mLc (mIt (mFn f_beginnings_of (mCons (mVar 1) (mCons (mVar 2) mNil)))) [4] (gN 4) (mBool (mFn f_is_free_set (mCons (mVar 1) (mCons (mCall dTuple (mCons (mFr (mL1 dSorted (mVar 4))) mNil)) mNil)))) (mVar 4)
def c__law_signs_right_2 : M (List PyData) := mLc (mIt (mVar 3)) [4] (gN 4) mYes (mIf (mBool (mBin dEq (mBin dMod (mCall dInt (mCons (mCall dLen (mCons (mVar 4) mNil)) mNil)) (mC (.int 2))) (mC (.int 0)))) (mC (.int 1)) (mNeg (mC (.int 1))))
def c__law_signs_right_3 : M (List PyData) := mLc (mIt (mVar 3)) [4] (gN 4) (mBool (mBin dEq (mCall dLen (mCons (mVar 4) mNil)) (mC (.int 1)))) (mVar 4)
def b__law_signs_right : MS :=
  (mSeq (mSet 1 (mFn f__law_letters (mCons (mVar 0) (mCons (mC (.int 5)) mNil))))
  (mSeq (mSet 2 (mFn f__law_some (mCons (mVar 0) (mCons (mFr (mL1 seqOf (mFn f_piles_of_length (mCons (mVar 1) (mCons (mBin dAdd (mC (.int 1)) (mFn f__law_roll (mCons (mVar 0) (mCons (mC (.int 3)) mNil)))) mNil))))) mNil))))
  (mSeq (mSet 3 (mFr c__law_signs_right_1))
  (mSeq (mIfS (mBool (mBin dNe (mCall dSum (mCons (mFr c__law_signs_right_2) mNil)) (mC (.int 0)))) (mRet (mC (.bool false))) mNext)
  (mSeq (mSet 5 (mFr c__law_signs_right_3))
  (mSeq (mSet 6 (mFn f_pile_above (mCons (mVar 1) (mCons (mCall dTuple (mCons (mVar 5) mNil)) mNil))))
  (mSeq (mSet 7 (mCall dMaxLen (mCons (mVar 3) mNil)))
  (mRet (mFn f__law_like (mCons (mFr (mDisp (mCons (mVar 6) (mCons (mFr (mL1 dSorted (mVar 3))) mNil)))) (mCons (mFr (mDisp (mCons (mVar 7) (mCons (mFn f__law_all_sets (mCons (mFr (mL1 dSorted (mVar 7))) mNil)) mNil)))) mNil)))))))))))
def f__law_signs_right : FW := fnM false 1 8 b__law_signs_right
def c_greatest_free_sets_1 : M (List PyData) := mLc (mIt (mVar 2)) [5] (gN 5) mYes (mFn f_is_free (mCons (mVar 0) (mCons (mVar 4) (mCons (mVar 5) mNil))))
def c_greatest_free_sets_2 : M (List PyData) := mLc (mRg1 (mCons (mBin dIx (mVar 0) (mC (.int 0))) mNil)) [4] (gN 4) (mBool (mCall dAll (mCons (mFr c_greatest_free_sets_1) mNil))) (mVar 4)
def l_greatest_free_sets_1b : MS :=
  (mSeq (mSet 3 (mFr c_greatest_free_sets_2))
  (mIfS (mBool (mBin dEq (mVar 3) (mFr (mDisp mNil)))) (mDo (mApp (mVar 1) (mVar 2))) mNext))
def l_greatest_free_sets_1 : MS := mFor (mIt (mFn f_sets_in (mCons (mVar 0) (mCons (mFn f_every_letter (mCons (mVar 0) mNil)) mNil)))) (gN 2) l_greatest_free_sets_1b
def b_greatest_free_sets : MS :=
  (mSeq (mDo (mFn f_need_letters (mCons (mVar 0) mNil)))
  (mSeq (mSet 1 (mNew (mDisp mNil)))
  (mSeq l_greatest_free_sets_1
  (mRet (mCall dTuple (mCons (mVar 1) mNil))))))
def f_greatest_free_sets : FW := fnM false 1 6 b_greatest_free_sets
def c_by_top_1 : M (List PyData) := mLc (mRg1 (mCons (mBin dIx (mVar 0) (mC (.int 0))) mNil)) [4] (gN 4) (mBool (mFn f_is_free (mCons (mVar 0) (mCons (mVar 4) (mCons (mVar 1) mNil))))) (mVar 4)
def c_by_top_2 : M (List PyData) := mLc (mEnum (mVar 5)) [9, 10] (gT (gsC (gN 9) (gsC (gN 10) gsN))) (mBool (mBin dLe (mVar 9) (mVar 8))) (mBin dMul (mVar 10) (mBin dIx (mVar 6) (mBin dSub (mVar 8) (mVar 9))))
def l_by_top_1b : MS :=
  (mDo (mApp (mVar 7) (mCall dSum (mCons (mFr c_by_top_2) mNil))))
def l_by_top_1 : MS := mFor (mRg1 (mCons (mVar 2) mNil)) (gN 8) l_by_top_1b
def b_by_top : MS :=
  (mSeq (mSet 3 (mCall dTuple (mCons (mFr c_by_top_1) mNil)))
  (mSeq (mUnp (gsC (gN 5) (gsC (gN 6) gsN)) (mCons (mFn f_sign_in (mCons (mVar 0) (mCons (mVar 3) mNil))) (mCons (mFn f_counts_in (mCons (mVar 0) (mCons (mVar 2) mNil))) mNil)))
  (mSeq (mSet 7 (mNew (mDisp mNil)))
  (mSeq l_by_top_1
  (mRet (mVar 7))))))
def f_by_top : FW := fnM false 3 11 b_by_top
def c_pointed_counts_1 : M (List PyData) := mLc (mRg1 (mCons (mBin dIx (mVar 0) (mC (.int 0))) mNil)) [3] (gN 3) mYes (mFn f_by_top (mCons (mVar 0) (mCons (mVar 3) (mCons (mVar 1) mNil))))
def c_pointed_counts_2 : M (List PyData) := mLc (mIt (mVar 2)) [4] (gN 4) mYes (mBin dIx (mVar 4) (mVar 5))
def c_pointed_counts_3 : M (List PyData) := mLc (mRg1 (mCons (mVar 1) mNil)) [5] (gN 5) mYes (mCall dSum (mCons (mFr c_pointed_counts_2) mNil))
def b_pointed_counts : MS :=
  (mSeq (mDo (mFn f_need_letters (mCons (mVar 0) mNil)))
  (mSeq (mDo (mFn f_need_whole (mCons (mVar 1) (mCons (mC (.int 1)) (mCons (mC (.int 60)) mNil)))))
  (mSeq (mSet 2 (mFr c_pointed_counts_1))
  (mRet (mCall dTuple (mCons (mFr c_pointed_counts_3) mNil))))))
def f_pointed_counts : FW := fnM false 2 6 b_pointed_counts
def c__law_written_right_1 : M (List PyData) := mLc (mIt (mFn f_piles_of_length (mCons (mVar 0) (mCons (mC (.int 3)) mNil)))) [3] (gN 3) (mBool (mFn f_is_beginning (mCons (mVar 0) (mCons (mTup (mCons (mC (.int 2)) mNil)) (mCons (mVar 3) mNil))))) (mVar 3)
def c__law_written_right_2 : M (List PyData) := mLc (mIt (mFn f_endings_of (mCons (mVar 0) (mCons (mTup (mCons (mC (.int 1)) (mCons (mC (.int 0)) (mCons (mC (.int 2)) mNil)))) mNil)))) [3] (gN 3) (mBool (mBin dEq (mCall dLen (mCons (mVar 3) mNil)) (mC (.int 1)))) (mVar 3)
def b__law_written_right : MS :=
  (mSeq (mSet 0 (mTup (mCons (mC (.int 3)) (mCons (mTup (mCons (mTup (mCons (mC (.int 0)) (mCons (mC (.int 2)) mNil))) mNil)) mNil))))
  (mSeq (mSet 1 (mFr (mDisp (mCons (mFn f_beginnings_of (mCons (mVar 0) (mCons (mTup (mCons (mC (.int 0)) (mCons (mC (.int 2)) (mCons (mC (.int 1)) mNil)))) mNil))) (mCons (mFn f_pile_above (mCons (mVar 0) (mCons (mTup (mCons (mTup (mCons (mC (.int 0)) mNil)) (mCons (mTup (mCons (mC (.int 2)) mNil)) mNil))) mNil))) (mCons (mFn f_pile_above (mCons (mVar 0) (mCons (mTup (mCons (mTup (mCons (mC (.int 0)) mNil)) (mCons (mTup (mCons (mC (.int 1)) mNil)) mNil))) mNil))) (mCons (mFn f_above_bar (mCons (mVar 0) (mCons (mTup (mCons (mC (.int 0)) mNil)) (mCons (mTup (mCons (mC (.int 1)) mNil)) mNil)))) (mCons (mFn f_pile_counts (mCons (mVar 0) (mCons (mC (.int 2)) mNil))) mNil))))))))
  (mSeq (mSet 2 (mFr (mDisp (mCons (mTup (mCons (mTup mNil) (mCons (mTup (mCons (mC (.int 0)) mNil)) (mCons (mTup (mCons (mC (.int 2)) mNil)) (mCons (mTup (mCons (mC (.int 0)) (mCons (mC (.int 2)) mNil))) (mCons (mTup (mCons (mC (.int 0)) (mCons (mC (.int 2)) (mCons (mC (.int 1)) mNil)))) mNil)))))) (mCons (mTup (mCons (mC (.int 0)) (mCons (mC (.int 2)) mNil))) (mCons (mC .none) (mCons (mTup (mCons (mC (.int 0)) (mCons (mC (.int 1)) mNil))) (mCons (mTup (mCons (mC (.int 1)) (mCons (mC (.int 3)) (mCons (mC (.int 8)) mNil)))) mNil))))))))
  (mSeq (mSet 1 (mBin dAdd (mVar 1) (mFr (mDisp (mCons (mCall dLen (mCons (mFr c__law_written_right_1) mNil)) (mCons (mFn f_four_parts (mCons (mVar 0) (mCons (mTup (mCons (mC (.int 0)) mNil)) (mCons (mTup (mCons (mC (.int 2)) mNil)) (mCons (mTup (mCons (mC (.int 2)) mNil)) (mCons (mTup (mCons (mC (.int 0)) mNil)) mNil)))))) (mCons (mFn f_greatest_free_sets (mCons (mVar 0) mNil)) mNil)))))))
  (mSeq (mSet 2 (mBin dAdd (mVar 2) (mFr (mDisp (mCons (mC (.int 8)) (mCons (mTup (mCons (mTup mNil) (mCons (mTup (mCons (mC (.int 0)) mNil)) (mCons (mTup (mCons (mC (.int 2)) mNil)) (mCons (mTup mNil) mNil))))) (mCons (mTup (mCons (mTup (mCons (mC (.int 0)) (mCons (mC (.int 2)) mNil))) (mCons (mTup (mCons (mC (.int 1)) mNil)) mNil))) mNil)))))))
  (mSeq (mSet 1 (mBin dAdd (mVar 1) (mFr (mDisp (mCons (mFn f_pointed_counts (mCons (mVar 0) (mCons (mC (.int 2)) mNil))) (mCons (mFr c__law_written_right_2) (mCons (mFn f_is_pointed (mCons (mVar 0) (mCons (mTup (mCons (mC (.int 1)) (mCons (mC (.int 0)) (mCons (mC (.int 2)) mNil)))) mNil))) (mCons (mFn f_common_beginning (mCons (mVar 0) (mCons (mTup (mCons (mTup (mCons (mC (.int 0)) (mCons (mC (.int 2)) (mCons (mC (.int 1)) mNil)))) (mCons (mTup (mCons (mC (.int 0)) (mCons (mC (.int 2)) mNil))) mNil))) mNil))) mNil))))))))
  (mRet (mFn f__law_like (mCons (mVar 1) (mCons (mBin dAdd (mVar 2) (mFr (mDisp (mCons (mTup (mCons (mC (.int 3)) (mCons (mC (.int 7)) mNil))) (mCons (mFr (mDisp (mCons (mTup (mCons (mC (.int 0)) mNil)) (mCons (mTup (mCons (mC (.int 2)) mNil)) mNil)))) (mCons (mC (.bool false)) (mCons (mTup (mCons (mC (.int 0)) (mCons (mC (.int 2)) mNil))) mNil))))))) mNil))))))))))
def f__law_written_right : FW := fnM false 0 4 b__law_written_right
def l_law_1b : MS :=
  (mIfS (mOr (mNot (mBool (mFn f__law_counts_right (mCons (mVar 1) mNil)))) (mOr (mNot (mBool (mFn f__law_signs_right (mCons (mVar 1) mNil)))) (mNot (mBool (mFn f__law_above_right (mCons (mVar 1) mNil)))))) (mRet (mC (.bool false))) mNext)
def l_law_1 : MS := mFor (mRg1 (mCons (mC (.int 6)) mNil)) (gN 2) l_law_1b
def b_law : MS :=
  (mSeq (mIfS (mNot (mBool (mFn f__law_written_right mNil))) (mRet (mC (.bool false))) mNext)
  (mSeq (mSet 1 (mFn f__law_cup (mCons (mVar 0) mNil)))
  (mSeq l_law_1
  (mRet (mC (.bool true))))))
def f_law : FW := fnM false 1 3 b_law
end LW
set_option linter.all false
set_option maxRecDepth 100000
set_option maxHeartbeats 4000000
/-! the defs of the law, each with its pure meaning; printed by gen.py -/
namespace LW
open PySem PySem.Spec PyProof.Rows L2 Ev
structure Mg (mg : Str → Option Value) : Prop where
  f_abs : mg "abs" = none
  f_all : mg "all" = none
  f_bool : mg "bool" = none
  f_enumerate : mg "enumerate" = none
  f_int : mg "int" = none
  f_isinstance : mg "isinstance" = none
  f_len : mg "len" = none
  f_list : mg "list" = none
  f_max : mg "max" = none
  f_min : mg "min" = none
  f_range : mg "range" = none
  f_set : mg "set" = none
  f_sorted : mg "sorted" = none
  f_str : mg "str" = none
  f_sum : mg "sum" = none
  f_tuple : mg "tuple" = none
  f_zip : mg "zip" = none
  i_LONG_pilecounts : ∃ t, mg "LONG_pilecounts" = some (.int 60 t)
  i_LONG_words : ∃ t, mg "LONG_words" = some (.int 60 t)
  i_MANY_beginninglists : ∃ t, mg "MANY_beginninglists" = some (.int 2000 t)
  i_MANY_pilecounts : ∃ t, mg "MANY_pilecounts" = some (.int 2000 t)
  i_MOST_commonpiles : ∃ t, mg "MOST_commonpiles" = some (.int 10 t)
  i_MOST_letters : ∃ t, mg "MOST_letters" = some (.int 8 t)
theorem sc__law_roll : FnScope ["cup", "many", "found"] ["cup", "many"] (defScope (top 95)) := ⟨rfl, rfl, rfl, by decide +kernel, rfl, by decide +kernel, by decide +kernel⟩
theorem ok__law_roll {P : Program} {w : World} {K : PySem.W.Frag} {mg : Str → Option Value} {base : Heap} {f : Addr} {fd : FuncData} (M : Mg mg) (F : FunD K "_law_roll" "_law_roll" (defArgs (top 95)) (defBody (top 95)) (defScope (top 95)) [] [] f fd) (gf : mg "_law_roll" = some (.ref f)) : DefOk P w K mg base 1 "_law_roll" f__law_roll := by
  have sc := sc__law_roll
  refine def_ok (P := P) (w := w) (K := K) (mg := mg) (base := base) (k := 0) F sc gf (fun _ _ _ _ _ _ us hl => match us, hl with | [_, _], _ => rfl) false b__law_roll fun cdv A outer s H E hr => ?_
  have hu : (A.deeper (envOfC "_law_roll" (defScope (top 95)) s.heap.objs.size f cdv)).units + 64 < cLine := by have := hr.un; omega
  exact (ass_cons (as_if (at_cmp (o_gt ⟨rfl, hu⟩) (ae_ix (ae_var 0) ae_int) ae_int) (ass_cons (as_set 2 sc.nd (ae_op o_mod (ae_callTy c_int (by decide +kernel) M.f_int (aa_cons (ae_ix (ae_var 0) ae_int) aa_nil)) (ae_var 1)))
  (ass_cons (as_subL (ae_var 0) ae_int (ae_op o_fdiv (ae_ix (ae_var 0) ae_int) (ae_var 1)))
  (ass_one (as_ret (ae_var 2))))) ass_nil)
  (ass_cons (as_subL (ae_var 0) ae_int (ae_op o_mod (ae_callTy c_int (by decide +kernel) M.f_int (aa_cons (ae_op o_add (ae_op o_mul (ae_ix (ae_var 0) ae_int) ae_int) ae_int) aa_nil)) ae_int))
  (ass_one (as_ret (ae_op o_mod (ae_callTy c_int (by decide +kernel) M.f_int (aa_cons (ae_op o_fdiv (ae_ix (ae_var 0) ae_int) ae_int) aa_nil)) (ae_var 1))))))
theorem sc__law_letters : FnScope ["cup", "most", "many", "pairs", "one", "other"] ["cup", "most"] (defScope (top 99)) := ⟨rfl, rfl, rfl, by decide +kernel, rfl, by decide +kernel, by decide +kernel⟩
theorem ok__law_letters {P : Program} {w : World} {K : PySem.W.Frag} {mg : Str → Option Value} {base : Heap} {f : Addr} {fd : FuncData} (M : Mg mg) (F : FunD K "_law_letters" "_law_letters" (defArgs (top 99)) (defBody (top 99)) (defScope (top 99)) [] [] f fd) (gf : mg "_law_letters" = some (.ref f)) (D__law_roll : DefOk P w K mg base 1 "_law_roll" f__law_roll) : DefOk P w K mg base 2 "_law_letters" f__law_letters := by
  have sc := sc__law_letters
  refine def_ok (P := P) (w := w) (K := K) (mg := mg) (base := base) (k := 1) F sc gf (fun _ _ _ _ _ _ us hl => match us, hl with | [_, _], _ => rfl) false b__law_letters fun cdv A outer s H E hr => ?_
  have hu : (A.deeper (envOfC "_law_letters" (defScope (top 99)) s.heap.objs.size f cdv)).units + 64 < cLine := by have := hr.un; omega
  exact (ass_cons (as_set 2 sc.nd (ae_op o_add ae_int (ae_call D__law_roll (hr.mono (by decide)) (aa_cons (ae_var 0) (aa_cons (ae_var 1) aa_nil)))))
  (ass_cons (as_set 3 sc.nd (AF.frozen (af_lst aa_nil)))
  (ass_cons (as_for PassesOwn.never rfl (ai_range1 (aa_cons (ae_var 2) aa_nil) M.f_range) (ag_name 4 sc.nd) (ass_one (as_for PassesOwn.never rfl (ai_range2 (aa_cons (ae_op o_add (ae_var 4) ae_int) (aa_cons (ae_var 2) aa_nil)) M.f_range) (ag_name 5 sc.nd) (ass_one (as_set 3 sc.nd (ae_op o_add (ae_var 3) (ae_if (at_cmp (o_eq ⟨rfl, hu⟩) (ae_call D__law_roll (hr.mono (by decide)) (aa_cons (ae_var 0) (aa_cons ae_int aa_nil))) ae_int) (AF.frozen (af_lst (aa_cons (ae_tup (aa_cons (ae_var 4) (aa_cons (ae_var 5) aa_nil))) aa_nil))) (AF.frozen (af_lst aa_nil)))))))))
  (ass_one (as_ret (ae_tup (aa_cons (ae_var 2) (aa_cons (ae_callTy c_tuple (by decide +kernel) M.f_tuple (aa_cons (ae_var 3) aa_nil)) aa_nil))))))))
theorem sc__law_sort : FnScope ["value"] ["value"] (defScope (top 97)) := ⟨rfl, rfl, rfl, by decide +kernel, rfl, by decide +kernel, by decide +kernel⟩
theorem ok__law_sort {P : Program} {w : World} {K : PySem.W.Frag} {mg : Str → Option Value} {base : Heap} {f : Addr} {fd : FuncData} (M : Mg mg) (F : FunD K "_law_sort" "_law_sort" (defArgs (top 97)) (defBody (top 97)) (defScope (top 97)) [] [] f fd) (gf : mg "_law_sort" = some (.ref f)) : DefOk P w K mg base 1 "_law_sort" f__law_sort := by
  have sc := sc__law_sort
  refine def_ok (P := P) (w := w) (K := K) (mg := mg) (base := base) (k := 0) F sc gf (fun _ _ _ _ _ _ us hl => match us, hl with | [_], _ => rfl) false b__law_sort fun cdv A outer s H E hr => ?_
  have hu : (A.deeper (envOfC "_law_sort" (defScope (top 97)) s.heap.objs.size f cdv)).units + 64 < cLine := by have := hr.un; omega
  exact (ass_cons (as_if (at_w (aw_or (at_cmp o_is (ae_var 0) ae_non) (aw_or1 (at_val (ae_isa isa_bool (by decide +kernel) M.f_isinstance M.f_bool (ae_var 0)))))) (ass_one (as_ret (ae_if (at_cmp o_is (ae_var 0) ae_non) ae_int ae_int))) ass_nil)
  (ass_cons (as_if (at_w (aw_or (at_val (ae_isa isa_int (by decide +kernel) M.f_isinstance M.f_int (ae_var 0))) (aw_or1 (at_val (ae_isa isa_str (by decide +kernel) M.f_isinstance M.f_str (ae_var 0)))))) (ass_one (as_ret (ae_if (at_val (ae_isa isa_int (by decide +kernel) M.f_isinstance M.f_int (ae_var 0))) ae_int ae_int))) ass_nil)
  (ass_one (as_ret (ae_if (at_val (ae_isa isa_tuple (by decide +kernel) M.f_isinstance M.f_tuple (ae_var 0))) ae_int (ae_if (at_val (ae_isa isa_list (by decide +kernel) M.f_isinstance M.f_list (ae_var 0))) ae_int ae_int))))))
theorem sc__law_like : FnScope ["one", "other", "sort", "first", "second"] ["one", "other"] (defScope (top 98)) := ⟨rfl, rfl, rfl, by decide +kernel, rfl, by decide +kernel, by decide +kernel⟩
theorem ok__law_like {P : Program} {w : World} {K : PySem.W.Frag} {mg : Str → Option Value} {base : Heap} {f : Addr} {fd : FuncData} (M : Mg mg) (F : FunD K "_law_like" "_law_like" (defArgs (top 98)) (defBody (top 98)) (defScope (top 98)) [] [] f fd) (gf : mg "_law_like" = some (.ref f)) (D__law_sort : DefOk P w K mg base 1 "_law_sort" f__law_sort) {k : Nat} {f__law_like : FW} (hk : 1 ≤ k) (D__law_like : DefOk P w K mg base k "_law_like" f__law_like) : DefOk P w K mg base (k + 1) "_law_like" (fnM false 2 5 (b__law_like f__law_like)) := by
  have sc := sc__law_like
  refine def_ok (P := P) (w := w) (K := K) (mg := mg) (base := base) F sc gf (fun _ _ _ _ _ _ us hl => match us, hl with | [_, _], _ => rfl) false (b__law_like f__law_like) fun cdv A outer s H E hr => ?_
  have hu : (A.deeper (envOfC "_law_like" (defScope (top 98)) s.heap.objs.size f cdv)).units + 64 < cLine := by have := hr.un; omega
  exact (ass_cons (as_set 2 sc.nd (ae_call D__law_sort (hr.mono (Nat.le_trans (by decide) hk)) (aa_cons (ae_var 1) aa_nil)))
  (ass_cons (as_if (at_w (aw_or (at_cmp (o_ne ⟨rfl, hu⟩) (ae_call D__law_sort (hr.mono (Nat.le_trans (by decide) hk)) (aa_cons (ae_var 0) aa_nil)) (ae_var 2)) (aw_or1 (at_cmp (o_eq ⟨rfl, hu⟩) (ae_var 2) ae_int)))) (ass_one (as_ret ae_bl)) ass_nil)
  (ass_cons (as_if (at_cmp (o_in ⟨rfl, hu⟩) (ae_var 2) (ae_tup (aa_cons ae_int (aa_cons ae_int aa_nil)))) (ass_one (as_ret (ae_and (ae_cmp (o_eq ⟨rfl, hu⟩) (ae_callB c_len (by decide +kernel) M.f_len (aa_cons (ae_var 0) aa_nil)) (ae_callB c_len (by decide +kernel) M.f_len (aa_cons (ae_var 1) aa_nil))) (ae_one (ae_cmp (o_eq ⟨rfl, hu⟩) (AF.frozen (af_lc ⟨rfl, hu⟩ sc.nd (ai_zip (ae_var 0) (ae_var 1) M.f_zip) (blkOk_by (own := [("first", 3), ("second", 4)]) (by kernel_rfl)) (by decide) (fun _ _ _ _ _ => (ag_tup rfl (ags_cons (ag_name 3 sc.nd) (ags_cons (ag_name 4 sc.nd) ags_nil)) (gsC_len (gsC_len (fun _ _ _ h => gsN_len h))))) (fun _ _ _ _ _ => (ats_one (at_not (at_val (ae_call D__law_like hr (aa_cons (ae_var 3) (aa_cons (ae_var 4) aa_nil))))))) (fun _ _ _ _ _ => ae_int))) (AF.frozen (af_lst aa_nil))))))) ass_nil)
  (ass_one (as_ret (ae_cmp (o_eq ⟨rfl, hu⟩) (ae_var 0) (ae_var 1)))))))
theorem okd__law_like {P : Program} {w : World} {K : PySem.W.Frag} {mg : Str → Option Value} {base : Heap} {f : Addr} {fd : FuncData} (M : Mg mg) (F : FunD K "_law_like" "_law_like" (defArgs (top 98)) (defBody (top 98)) (defScope (top 98)) [] [] f fd) (gf : mg "_law_like" = some (.ref f)) (D__law_sort : DefOk P w K mg base 1 "_law_sort" f__law_sort) : ∀ d : Nat, DefOk P w K mg base (1 + d) "_law_like" (r__law_like d)
  | 0 => def_none (ps := ["one", "other"]) F gf (fun _ _ _ _ _ _ us hl => match us, hl with | [_, _], _ => rfl)
  | d + 1 => ok__law_like M F gf D__law_sort (Nat.le_add_right _ _) (okd__law_like M F gf D__law_sort d)
theorem okf__law_like {P : Program} {w : World} {K : PySem.W.Frag} {mg : Str → Option Value} {base : Heap} {f : Addr} {fd : FuncData} (M : Mg mg) (F : FunD K "_law_like" "_law_like" (defArgs (top 98)) (defBody (top 98)) (defScope (top 98)) [] [] f fd) (gf : mg "_law_like" = some (.ref f)) (D__law_sort : DefOk P w K mg base 1 "_law_sort" f__law_sort) : DefOk P w K mg base 7 "_law_like" f__law_like := okd__law_like M F gf D__law_sort 6
theorem sc__law_some : FnScope ["cup", "things"] ["cup", "things"] (defScope (top 96)) := ⟨rfl, rfl, rfl, by decide +kernel, rfl, by decide +kernel, by decide +kernel⟩
theorem ok__law_some {P : Program} {w : World} {K : PySem.W.Frag} {mg : Str → Option Value} {base : Heap} {f : Addr} {fd : FuncData} (M : Mg mg) (F : FunD K "_law_some" "_law_some" (defArgs (top 96)) (defBody (top 96)) (defScope (top 96)) [] [] f fd) (gf : mg "_law_some" = some (.ref f)) (D__law_roll : DefOk P w K mg base 1 "_law_roll" f__law_roll) : DefOk P w K mg base 2 "_law_some" f__law_some := by
  have sc := sc__law_some
  refine def_ok (P := P) (w := w) (K := K) (mg := mg) (base := base) (k := 1) F sc gf (fun _ _ _ _ _ _ us hl => match us, hl with | [_, _], _ => rfl) false b__law_some fun cdv A outer s H E hr => ?_
  have hu : (A.deeper (envOfC "_law_some" (defScope (top 96)) s.heap.objs.size f cdv)).units + 64 < cLine := by have := hr.un; omega
  exact (ass_one (as_ret (ae_ix (ae_var 1) (ae_call D__law_roll (hr.mono (by decide)) (aa_cons (ae_var 0) (aa_cons (ae_callB c_len (by decide +kernel) M.f_len (aa_cons (ae_var 1) aa_nil)) aa_nil))))))
theorem sc_is_free : FnScope ["letters", "one", "other"] ["letters", "one", "other"] (defScope (top 18)) := ⟨rfl, rfl, rfl, by decide +kernel, rfl, by decide +kernel, by decide +kernel⟩
theorem ok_is_free {P : Program} {w : World} {K : PySem.W.Frag} {mg : Str → Option Value} {base : Heap} {f : Addr} {fd : FuncData} (M : Mg mg) (F : FunD K "is_free" "is_free" (defArgs (top 18)) (defBody (top 18)) (defScope (top 18)) [] [] f fd) (gf : mg "is_free" = some (.ref f)) : DefOk P w K mg base 1 "is_free" f_is_free := by
  have sc := sc_is_free
  refine def_ok (P := P) (w := w) (K := K) (mg := mg) (base := base) (k := 0) F sc gf (fun _ _ _ _ _ _ us hl => match us, hl with | [_, _, _], _ => rfl) false b_is_free fun cdv A outer s H E hr => ?_
  have hu : (A.deeper (envOfC "is_free" (defScope (top 18)) s.heap.objs.size f cdv)).units + 64 < cLine := by have := hr.un; omega
  exact (ass_one (as_ret (ae_cmp (o_in ⟨rfl, hu⟩) (ae_if (at_cmp (o_lt ⟨rfl, hu⟩) (ae_var 1) (ae_var 2)) (ae_tup (aa_cons (ae_var 1) (aa_cons (ae_var 2) aa_nil))) (ae_tup (aa_cons (ae_var 2) (aa_cons (ae_var 1) aa_nil)))) (ae_ix (ae_var 0) ae_int))))
theorem sc_is_tuple_of : FnScope ["value", "low", "high"] ["value", "low", "high"] (defScope (top 12)) := ⟨rfl, rfl, rfl, by decide +kernel, rfl, by decide +kernel, by decide +kernel⟩
theorem ok_is_tuple_of {P : Program} {w : World} {K : PySem.W.Frag} {mg : Str → Option Value} {base : Heap} {f : Addr} {fd : FuncData} (M : Mg mg) (F : FunD K "is_tuple_of" "is_tuple_of" (defArgs (top 12)) (defBody (top 12)) (defScope (top 12)) [] [] f fd) (gf : mg "is_tuple_of" = some (.ref f)) : DefOk P w K mg base 1 "is_tuple_of" f_is_tuple_of := by
  have sc := sc_is_tuple_of
  refine def_ok (P := P) (w := w) (K := K) (mg := mg) (base := base) (k := 0) F sc gf (fun _ _ _ _ _ _ us hl => match us, hl with | [_, _, _], _ => rfl) false b_is_tuple_of fun cdv A outer s H E hr => ?_
  have hu : (A.deeper (envOfC "is_tuple_of" (defScope (top 12)) s.heap.objs.size f cdv)).units + 64 < cLine := by have := hr.un; omega
  exact (ass_one (as_ret (ae_and (ae_isa isa_tuple (by decide +kernel) M.f_isinstance M.f_tuple (ae_var 0)) (ae_one (ae_chain (o_le ⟨rfl, hu⟩) (o_le ⟨rfl, hu⟩) (ae_var 1) (ae_callB c_len (by decide +kernel) M.f_len (aa_cons (ae_var 0) aa_nil)) (ae_var 2))))))
theorem sc_is_whole : FnScope ["value", "low", "high"] ["value", "low", "high"] (defScope (top 10)) := ⟨rfl, rfl, rfl, by decide +kernel, rfl, by decide +kernel, by decide +kernel⟩
theorem ok_is_whole {P : Program} {w : World} {K : PySem.W.Frag} {mg : Str → Option Value} {base : Heap} {f : Addr} {fd : FuncData} (M : Mg mg) (F : FunD K "is_whole" "is_whole" (defArgs (top 10)) (defBody (top 10)) (defScope (top 10)) [] [] f fd) (gf : mg "is_whole" = some (.ref f)) : DefOk P w K mg base 1 "is_whole" f_is_whole := by
  have sc := sc_is_whole
  refine def_ok (P := P) (w := w) (K := K) (mg := mg) (base := base) (k := 0) F sc gf (fun _ _ _ _ _ _ us hl => match us, hl with | [_, _, _], _ => rfl) false b_is_whole fun cdv A outer s H E hr => ?_
  have hu : (A.deeper (envOfC "is_whole" (defScope (top 10)) s.heap.objs.size f cdv)).units + 64 < cLine := by have := hr.un; omega
  exact (ass_one (as_ret (ae_and (ae_isa isa_int (by decide +kernel) M.f_isinstance M.f_int (ae_var 0)) (ae_and (ae_not (ae_isa isa_bool (by decide +kernel) M.f_isinstance M.f_bool (ae_var 0))) (ae_one (ae_chain (o_le ⟨rfl, hu⟩) (o_le ⟨rfl, hu⟩) (ae_var 1) (ae_var 0) (ae_var 2)))))))
theorem sc_is_pair : FnScope ["many", "value", "own"] ["many", "value"] (defScope (top 15)) := ⟨rfl, rfl, rfl, by decide +kernel, rfl, by decide +kernel, by decide +kernel⟩
theorem ok_is_pair {P : Program} {w : World} {K : PySem.W.Frag} {mg : Str → Option Value} {base : Heap} {f : Addr} {fd : FuncData} (M : Mg mg) (F : FunD K "is_pair" "is_pair" (defArgs (top 15)) (defBody (top 15)) (defScope (top 15)) [] [] f fd) (gf : mg "is_pair" = some (.ref f)) (D_is_tuple_of : DefOk P w K mg base 1 "is_tuple_of" f_is_tuple_of) (D_is_whole : DefOk P w K mg base 1 "is_whole" f_is_whole) : DefOk P w K mg base 2 "is_pair" f_is_pair := by
  have sc := sc_is_pair
  refine def_ok (P := P) (w := w) (K := K) (mg := mg) (base := base) (k := 1) F sc gf (fun _ _ _ _ _ _ us hl => match us, hl with | [_, _], _ => rfl) false b_is_pair fun cdv A outer s H E hr => ?_
  have hu : (A.deeper (envOfC "is_pair" (defScope (top 15)) s.heap.objs.size f cdv)).units + 64 < cLine := by have := hr.un; omega
  exact (ass_one (as_ret (ae_and (ae_call D_is_tuple_of (hr.mono (by decide)) (aa_cons (ae_var 1) (aa_cons ae_int (aa_cons ae_int aa_nil)))) (ae_and (ae_callB (c_all ⟨rfl, hu⟩) (by decide +kernel) M.f_all (aa_cons (AF.frozen (af_lc ⟨rfl, hu⟩ sc.nd (ai_seq (ae_var 1)) (blkOk_by (own := [("own", 2)]) (by kernel_rfl)) (by decide) (fun _ _ _ _ _ => (ag_name 2 sc.nd)) (fun _ _ _ _ _ => ats_nil) (fun _ _ _ _ _ => (ae_call D_is_whole (hr.mono (by decide)) (aa_cons (ae_var 2) (aa_cons ae_int (aa_cons (ae_op o_sub (ae_var 0) ae_int) aa_nil))))))) aa_nil)) (ae_one (ae_cmp (o_lt ⟨rfl, hu⟩) (ae_ix (ae_var 1) ae_int) (ae_ix (ae_var 1) ae_int)))))))
theorem sc_is_letters : FnScope ["value", "pair", "at"] ["value"] (defScope (top 16)) := ⟨rfl, rfl, rfl, by decide +kernel, rfl, by decide +kernel, by decide +kernel⟩
theorem ok_is_letters {P : Program} {w : World} {K : PySem.W.Frag} {mg : Str → Option Value} {base : Heap} {f : Addr} {fd : FuncData} (M : Mg mg) (F : FunD K "is_letters" "is_letters" (defArgs (top 16)) (defBody (top 16)) (defScope (top 16)) [] [] f fd) (gf : mg "is_letters" = some (.ref f)) (D_is_tuple_of : DefOk P w K mg base 1 "is_tuple_of" f_is_tuple_of) (D_is_whole : DefOk P w K mg base 1 "is_whole" f_is_whole) (D_is_pair : DefOk P w K mg base 2 "is_pair" f_is_pair) : DefOk P w K mg base 3 "is_letters" f_is_letters := by
  obtain ⟨t_MOST_letters, h_MOST_letters⟩ := M.i_MOST_letters
  have sc := sc_is_letters
  refine def_ok (P := P) (w := w) (K := K) (mg := mg) (base := base) (k := 2) F sc gf (fun _ _ _ _ _ _ us hl => match us, hl with | [_], _ => rfl) false b_is_letters fun cdv A outer s H E hr => ?_
  have hu : (A.deeper (envOfC "is_letters" (defScope (top 16)) s.heap.objs.size f cdv)).units + 64 < cLine := by have := hr.un; omega
  exact (ass_cons (as_if (at_w (aw_or (at_not (at_val (ae_call D_is_tuple_of (hr.mono (by decide)) (aa_cons (ae_var 0) (aa_cons ae_int (aa_cons ae_int aa_nil)))))) (aw_or (at_not (at_val (ae_call D_is_whole (hr.mono (by decide)) (aa_cons (ae_ix (ae_var 0) ae_int) (aa_cons ae_int (aa_cons (ae_globI (by rfl) h_MOST_letters) aa_nil)))))) (aw_or1 (at_not (at_val (ae_call D_is_tuple_of (hr.mono (by decide)) (aa_cons (ae_ix (ae_var 0) ae_int) (aa_cons ae_int (aa_cons (ae_op o_mul (ae_globI (by rfl) h_MOST_letters) (ae_globI (by rfl) h_MOST_letters)) aa_nil)))))))))) (ass_one (as_ret ae_bl)) ass_nil)
  (ass_cons (as_if (at_not (at_val (ae_callB (c_all ⟨rfl, hu⟩) (by decide +kernel) M.f_all (aa_cons (AF.frozen (af_lc ⟨rfl, hu⟩ sc.nd (ai_seq (ae_ix (ae_var 0) ae_int)) (blkOk_by (own := [("pair", 1)]) (by kernel_rfl)) (by decide) (fun _ _ _ _ _ => (ag_name 1 sc.nd)) (fun _ _ _ _ _ => ats_nil) (fun _ _ _ _ _ => (ae_call D_is_pair (hr.mono (by decide)) (aa_cons (ae_ix (ae_var 0) ae_int) (aa_cons (ae_var 1) aa_nil)))))) aa_nil)))) (ass_one (as_ret ae_bl)) ass_nil)
  (ass_one (as_ret (ae_callB (c_all ⟨rfl, hu⟩) (by decide +kernel) M.f_all (aa_cons (AF.frozen (af_lc ⟨rfl, hu⟩ sc.nd (ai_range1 (aa_cons (ae_op o_sub (ae_callB c_len (by decide +kernel) M.f_len (aa_cons (ae_ix (ae_var 0) ae_int) aa_nil)) ae_int) aa_nil) M.f_range) (blkOk_by (own := [("at", 2)]) (by kernel_rfl)) (by decide) (fun _ _ _ _ _ => (ag_name 2 sc.nd)) (fun _ _ _ _ _ => ats_nil) (fun _ _ _ _ _ => (ae_cmp (o_lt ⟨rfl, hu⟩) (ae_ix (ae_ix (ae_var 0) ae_int) (ae_var 2)) (ae_ix (ae_ix (ae_var 0) ae_int) (ae_op o_add (ae_var 2) ae_int)))))) aa_nil))))))
theorem sc_need_letters : FnScope ["value"] ["value"] (defScope (top 17)) := ⟨rfl, rfl, rfl, by decide +kernel, rfl, by decide +kernel, by decide +kernel⟩
theorem ok_need_letters {P : Program} {w : World} {K : PySem.W.Frag} {mg : Str → Option Value} {base : Heap} {f : Addr} {fd : FuncData} (M : Mg mg) (F : FunD K "need_letters" "need_letters" (defArgs (top 17)) (defBody (top 17)) (defScope (top 17)) [] [] f fd) (gf : mg "need_letters" = some (.ref f)) (D_is_letters : DefOk P w K mg base 3 "is_letters" f_is_letters) : DefOk P w K mg base 4 "need_letters" f_need_letters := by
  have sc := sc_need_letters
  refine def_ok (P := P) (w := w) (K := K) (mg := mg) (base := base) (k := 3) F sc gf (fun _ _ _ _ _ _ us hl => match us, hl with | [_], _ => rfl) false b_need_letters fun cdv A outer s H E hr => ?_
  have hu : (A.deeper (envOfC "need_letters" (defScope (top 17)) s.heap.objs.size f cdv)).units + 64 < cLine := by have := hr.un; omega
  exact (ass_one (as_if (at_not (at_val (ae_call D_is_letters (hr.mono (by decide)) (aa_cons (ae_var 0) aa_nil)))) (ass_one as_never) ass_nil))
theorem sc_is_word_of : FnScope ["letters", "value", "own"] ["letters", "value"] (defScope (top 29)) := ⟨rfl, rfl, rfl, by decide +kernel, rfl, by decide +kernel, by decide +kernel⟩
theorem ok_is_word_of {P : Program} {w : World} {K : PySem.W.Frag} {mg : Str → Option Value} {base : Heap} {f : Addr} {fd : FuncData} (M : Mg mg) (F : FunD K "is_word_of" "is_word_of" (defArgs (top 29)) (defBody (top 29)) (defScope (top 29)) [] [] f fd) (gf : mg "is_word_of" = some (.ref f)) (D_is_tuple_of : DefOk P w K mg base 1 "is_tuple_of" f_is_tuple_of) (D_is_whole : DefOk P w K mg base 1 "is_whole" f_is_whole) : DefOk P w K mg base 2 "is_word_of" f_is_word_of := by
  obtain ⟨t_LONG_words, h_LONG_words⟩ := M.i_LONG_words
  have sc := sc_is_word_of
  refine def_ok (P := P) (w := w) (K := K) (mg := mg) (base := base) (k := 1) F sc gf (fun _ _ _ _ _ _ us hl => match us, hl with | [_, _], _ => rfl) false b_is_word_of fun cdv A outer s H E hr => ?_
  have hu : (A.deeper (envOfC "is_word_of" (defScope (top 29)) s.heap.objs.size f cdv)).units + 64 < cLine := by have := hr.un; omega
  exact (ass_one (as_ret (ae_and (ae_call D_is_tuple_of (hr.mono (by decide)) (aa_cons (ae_var 1) (aa_cons ae_int (aa_cons (ae_globI (by rfl) h_LONG_words) aa_nil)))) (ae_one (ae_callB (c_all ⟨rfl, hu⟩) (by decide +kernel) M.f_all (aa_cons (AF.frozen (af_lc ⟨rfl, hu⟩ sc.nd (ai_seq (ae_var 1)) (blkOk_by (own := [("own", 2)]) (by kernel_rfl)) (by decide) (fun _ _ _ _ _ => (ag_name 2 sc.nd)) (fun _ _ _ _ _ => ats_nil) (fun _ _ _ _ _ => (ae_call D_is_whole (hr.mono (by decide)) (aa_cons (ae_var 2) (aa_cons ae_int (aa_cons (ae_op o_sub (ae_ix (ae_var 0) ae_int) ae_int) aa_nil))))))) aa_nil))))))
theorem sc_first_places : FnScope ["letters", "word", "found", "at", "letter", "own"] ["letters", "word"] (defScope (top 31)) := ⟨rfl, rfl, rfl, by decide +kernel, rfl, by decide +kernel, by decide +kernel⟩
theorem ok_first_places {P : Program} {w : World} {K : PySem.W.Frag} {mg : Str → Option Value} {base : Heap} {f : Addr} {fd : FuncData} (M : Mg mg) (F : FunD K "first_places" "first_places" (defArgs (top 31)) (defBody (top 31)) (defScope (top 31)) [] [] f fd) (gf : mg "first_places" = some (.ref f)) (D_is_free : DefOk P w K mg base 1 "is_free" f_is_free) : DefOk P w K mg base 2 "first_places" f_first_places := by
  have sc := sc_first_places
  refine def_ok (P := P) (w := w) (K := K) (mg := mg) (base := base) (k := 1) F sc gf (fun _ _ _ _ _ _ us hl => match us, hl with | [_, _], _ => rfl) false b_first_places fun cdv A outer s H E hr => ?_
  have hu : (A.deeper (envOfC "first_places" (defScope (top 31)) s.heap.objs.size f cdv)).units + 64 < cLine := by have := hr.un; omega
  exact (ass_cons (as_set 2 sc.nd (AF.cell (af_lst aa_nil)))
  (ass_cons (as_for PassesOwn.never rfl (ai_enum (ae_var 1) M.f_enumerate) (ag_tup rfl (ags_cons (ag_name 3 sc.nd) (ags_cons (ag_name 4 sc.nd) ags_nil)) (gsC_len (gsC_len (fun _ _ _ h => gsN_len h)))) (ass_one (as_if (at_val (ae_callB (c_all ⟨rfl, hu⟩) (by decide +kernel) M.f_all (aa_cons (AF.frozen (af_lc ⟨rfl, hu⟩ sc.nd (ai_seq (ae_sl (ae_var 1) ao_no (ao_some (ae_var 3)))) (blkOk_by (own := [("own", 5)]) (by kernel_rfl)) (by decide) (fun _ _ _ _ _ => (ag_name 5 sc.nd)) (fun _ _ _ _ _ => ats_nil) (fun _ _ _ _ _ => (ae_call D_is_free (hr.mono (by decide)) (aa_cons (ae_var 0) (aa_cons (ae_var 4) (aa_cons (ae_var 5) aa_nil))))))) aa_nil))) (ass_one (as_do (ae_app (ae_var 2) (ae_var 3)))) ass_nil)))
  (ass_one (as_ret (ae_var 2)))))
theorem sc_least : FnScope ["letters", "word", "left", "found", "turn", "place", "at"] ["letters", "word"] (defScope (top 32)) := ⟨rfl, rfl, rfl, by decide +kernel, rfl, by decide +kernel, by decide +kernel⟩
theorem ok_least {P : Program} {w : World} {K : PySem.W.Frag} {mg : Str → Option Value} {base : Heap} {f : Addr} {fd : FuncData} (M : Mg mg) (F : FunD K "least" "least" (defArgs (top 32)) (defBody (top 32)) (defScope (top 32)) [] [] f fd) (gf : mg "least" = some (.ref f)) (D_first_places : DefOk P w K mg base 2 "first_places" f_first_places) : DefOk P w K mg base 3 "least" f_least := by
  have sc := sc_least
  refine def_ok (P := P) (w := w) (K := K) (mg := mg) (base := base) (k := 2) F sc gf (fun _ _ _ _ _ _ us hl => match us, hl with | [_, _], _ => rfl) false b_least fun cdv A outer s H E hr => ?_
  have hu : (A.deeper (envOfC "least" (defScope (top 32)) s.heap.objs.size f cdv)).units + 64 < cLine := by have := hr.un; omega
  exact (ass_cons (as_unp rfl (aa_cons (AF.frozen (af_callTy l_list (by decide +kernel) M.f_list (ae_var 1))) (aa_cons (AF.cell (af_lst aa_nil)) aa_nil)) (ags_cons (ag_name 2 sc.nd) (ags_cons (ag_name 3 sc.nd) ags_nil)) (gsC_len (gsC_len (fun _ _ _ h => gsN_len h))))
  (ass_cons (as_for PassesOwn.never rfl (ai_range1 (aa_cons (ae_callB c_len (by decide +kernel) M.f_len (aa_cons (ae_var 1) aa_nil)) aa_nil) M.f_range) (ag_name 4 sc.nd) (ass_cons (as_set 5 sc.nd (ae_ix (ae_callB (c_minL ⟨rfl, hu⟩) (by decide +kernel) M.f_min (aa_cons (AF.frozen (af_lc ⟨rfl, hu⟩ sc.nd (ai_seq (ae_call D_first_places (hr.mono (by decide)) (aa_cons (ae_var 0) (aa_cons (ae_var 2) aa_nil)))) (blkOk_by (own := [("at", 6)]) (by kernel_rfl)) (by decide) (fun _ _ _ _ _ => (ag_name 6 sc.nd)) (fun _ _ _ _ _ => ats_nil) (fun _ _ _ _ _ => (ae_tup (aa_cons (ae_ix (ae_var 2) (ae_var 6)) (aa_cons (ae_var 6) aa_nil)))))) aa_nil)) ae_int))
  (ass_cons (as_do (ae_app (ae_var 3) (ae_ix (ae_var 2) (ae_var 5))))
  (ass_one (as_set 2 sc.nd (ae_op o_add (ae_sl (ae_var 2) ao_no (ao_some (ae_var 5))) (ae_sl (ae_var 2) (ao_some (ae_op o_add (ae_var 5) ae_int)) ao_no)))))))
  (ass_one (as_ret (ae_callTy c_tuple (by decide +kernel) M.f_tuple (aa_cons (ae_var 3) aa_nil))))))
theorem sc_is_pile_of : FnScope ["letters", "value"] ["letters", "value"] (defScope (top 33)) := ⟨rfl, rfl, rfl, by decide +kernel, rfl, by decide +kernel, by decide +kernel⟩
theorem ok_is_pile_of {P : Program} {w : World} {K : PySem.W.Frag} {mg : Str → Option Value} {base : Heap} {f : Addr} {fd : FuncData} (M : Mg mg) (F : FunD K "is_pile_of" "is_pile_of" (defArgs (top 33)) (defBody (top 33)) (defScope (top 33)) [] [] f fd) (gf : mg "is_pile_of" = some (.ref f)) (D_is_word_of : DefOk P w K mg base 2 "is_word_of" f_is_word_of) (D_least : DefOk P w K mg base 3 "least" f_least) : DefOk P w K mg base 4 "is_pile_of" f_is_pile_of := by
  have sc := sc_is_pile_of
  refine def_ok (P := P) (w := w) (K := K) (mg := mg) (base := base) (k := 3) F sc gf (fun _ _ _ _ _ _ us hl => match us, hl with | [_, _], _ => rfl) false b_is_pile_of fun cdv A outer s H E hr => ?_
  have hu : (A.deeper (envOfC "is_pile_of" (defScope (top 33)) s.heap.objs.size f cdv)).units + 64 < cLine := by have := hr.un; omega
  exact (ass_one (as_ret (ae_and (ae_call D_is_word_of (hr.mono (by decide)) (aa_cons (ae_var 0) (aa_cons (ae_var 1) aa_nil))) (ae_one (ae_cmp (o_eq ⟨rfl, hu⟩) (ae_call D_least (hr.mono (by decide)) (aa_cons (ae_var 0) (aa_cons (ae_var 1) aa_nil))) (ae_var 1))))))
theorem sc_need_pile : FnScope ["letters", "value"] ["letters", "value"] (defScope (top 34)) := ⟨rfl, rfl, rfl, by decide +kernel, rfl, by decide +kernel, by decide +kernel⟩
theorem ok_need_pile {P : Program} {w : World} {K : PySem.W.Frag} {mg : Str → Option Value} {base : Heap} {f : Addr} {fd : FuncData} (M : Mg mg) (F : FunD K "need_pile" "need_pile" (defArgs (top 34)) (defBody (top 34)) (defScope (top 34)) [] [] f fd) (gf : mg "need_pile" = some (.ref f)) (D_is_pile_of : DefOk P w K mg base 4 "is_pile_of" f_is_pile_of) : DefOk P w K mg base 5 "need_pile" f_need_pile := by
  have sc := sc_need_pile
  refine def_ok (P := P) (w := w) (K := K) (mg := mg) (base := base) (k := 4) F sc gf (fun _ _ _ _ _ _ us hl => match us, hl with | [_, _], _ => rfl) false b_need_pile fun cdv A outer s H E hr => ?_
  have hu : (A.deeper (envOfC "need_pile" (defScope (top 34)) s.heap.objs.size f cdv)).units + 64 < cLine := by have := hr.un; omega
  exact (ass_one (as_if (at_not (at_val (ae_call D_is_pile_of (hr.mono (by decide)) (aa_cons (ae_var 0) (aa_cons (ae_var 1) aa_nil))))) (ass_one as_never) ass_nil))
theorem sc_need_two : FnScope ["letters", "one", "other"] ["letters", "one", "other"] (defScope (top 44)) := ⟨rfl, rfl, rfl, by decide +kernel, rfl, by decide +kernel, by decide +kernel⟩
theorem ok_need_two {P : Program} {w : World} {K : PySem.W.Frag} {mg : Str → Option Value} {base : Heap} {f : Addr} {fd : FuncData} (M : Mg mg) (F : FunD K "need_two" "need_two" (defArgs (top 44)) (defBody (top 44)) (defScope (top 44)) [] [] f fd) (gf : mg "need_two" = some (.ref f)) (D_need_letters : DefOk P w K mg base 4 "need_letters" f_need_letters) (D_need_pile : DefOk P w K mg base 5 "need_pile" f_need_pile) : DefOk P w K mg base 6 "need_two" f_need_two := by
  have sc := sc_need_two
  refine def_ok (P := P) (w := w) (K := K) (mg := mg) (base := base) (k := 5) F sc gf (fun _ _ _ _ _ _ us hl => match us, hl with | [_, _, _], _ => rfl) false b_need_two fun cdv A outer s H E hr => ?_
  have hu : (A.deeper (envOfC "need_two" (defScope (top 44)) s.heap.objs.size f cdv)).units + 64 < cLine := by have := hr.un; omega
  exact (ass_cons (as_do (ae_call D_need_letters (hr.mono (by decide)) (aa_cons (ae_var 0) aa_nil)))
  (ass_cons (as_do (ae_call D_need_pile (hr.mono (by decide)) (aa_cons (ae_var 0) (aa_cons (ae_var 1) aa_nil))))
  (ass_one (as_do (ae_call D_need_pile (hr.mono (by decide)) (aa_cons (ae_var 0) (aa_cons (ae_var 2) aa_nil)))))))
theorem sc_taken : FnScope ["letters", "letter", "word", "at", "own"] ["letters", "letter", "word"] (defScope (top 40)) := ⟨rfl, rfl, rfl, by decide +kernel, rfl, by decide +kernel, by decide +kernel⟩
theorem ok_taken {P : Program} {w : World} {K : PySem.W.Frag} {mg : Str → Option Value} {base : Heap} {f : Addr} {fd : FuncData} (M : Mg mg) (F : FunD K "taken" "taken" (defArgs (top 40)) (defBody (top 40)) (defScope (top 40)) [] [] f fd) (gf : mg "taken" = some (.ref f)) (D_is_free : DefOk P w K mg base 1 "is_free" f_is_free) : DefOk P w K mg base 2 "taken" f_taken := by
  have sc := sc_taken
  refine def_ok (P := P) (w := w) (K := K) (mg := mg) (base := base) (k := 1) F sc gf (fun _ _ _ _ _ _ us hl => match us, hl with | [_, _, _], _ => rfl) false b_taken fun cdv A outer s H E hr => ?_
  have hu : (A.deeper (envOfC "taken" (defScope (top 40)) s.heap.objs.size f cdv)).units + 64 < cLine := by have := hr.un; omega
  exact (ass_cons (as_for PassesOwn.never rfl (ai_enum (ae_var 2) M.f_enumerate) (ag_tup rfl (ags_cons (ag_name 3 sc.nd) (ags_cons (ag_name 4 sc.nd) ags_nil)) (gsC_len (gsC_len (fun _ _ _ h => gsN_len h)))) (ass_cons (as_if (at_cmp (o_eq ⟨rfl, hu⟩) (ae_var 4) (ae_var 1)) (ass_one (as_ret (ae_op o_add (ae_sl (ae_var 2) ao_no (ao_some (ae_var 3))) (ae_sl (ae_var 2) (ao_some (ae_op o_add (ae_var 3) ae_int)) ao_no)))) ass_nil)
  (ass_one (as_if (at_not (at_val (ae_call D_is_free (hr.mono (by decide)) (aa_cons (ae_var 0) (aa_cons (ae_var 1) (aa_cons (ae_var 4) aa_nil)))))) (ass_one (as_ret ae_non)) ass_nil))))
  (ass_one (as_ret ae_non)))
theorem sc_behind_in : FnScope ["letters", "one", "other", "left", "letter"] ["letters", "one", "other"] (defScope (top 41)) := ⟨rfl, rfl, rfl, by decide +kernel, rfl, by decide +kernel, by decide +kernel⟩
theorem ok_behind_in {P : Program} {w : World} {K : PySem.W.Frag} {mg : Str → Option Value} {base : Heap} {f : Addr} {fd : FuncData} (M : Mg mg) (F : FunD K "behind_in" "behind_in" (defArgs (top 41)) (defBody (top 41)) (defScope (top 41)) [] [] f fd) (gf : mg "behind_in" = some (.ref f)) (D_taken : DefOk P w K mg base 2 "taken" f_taken) (D_least : DefOk P w K mg base 3 "least" f_least) : DefOk P w K mg base 4 "behind_in" f_behind_in := by
  have sc := sc_behind_in
  refine def_ok (P := P) (w := w) (K := K) (mg := mg) (base := base) (k := 3) F sc gf (fun _ _ _ _ _ _ us hl => match us, hl with | [_, _, _], _ => rfl) false b_behind_in fun cdv A outer s H E hr => ?_
  have hu : (A.deeper (envOfC "behind_in" (defScope (top 41)) s.heap.objs.size f cdv)).units + 64 < cLine := by have := hr.un; omega
  exact (ass_cons (as_set 3 sc.nd (AF.frozen (af_callTy l_list (by decide +kernel) M.f_list (ae_var 2))))
  (ass_cons (as_for PassesOwn.never rfl (ai_seq (ae_var 1)) (ag_name 4 sc.nd) (ass_cons (as_set 3 sc.nd (ae_call D_taken (hr.mono (by decide)) (aa_cons (ae_var 0) (aa_cons (ae_var 4) (aa_cons (ae_var 3) aa_nil)))))
  (ass_one (as_if (at_cmp o_is (ae_var 3) ae_non) (ass_one (as_ret ae_non)) ass_nil))))
  (ass_one (as_ret (ae_call D_least (hr.mono (by decide)) (aa_cons (ae_var 0) (aa_cons (ae_var 3) aa_nil)))))))
theorem sc_common_in : FnScope ["letters", "piles", "left", "found", "own", "turn", "rows", "letter", "some", "at", "row"] ["letters", "piles"] (defScope (top 63)) := ⟨rfl, rfl, rfl, by decide +kernel, rfl, by decide +kernel, by decide +kernel⟩
theorem ok_common_in {P : Program} {w : World} {K : PySem.W.Frag} {mg : Str → Option Value} {base : Heap} {f : Addr} {fd : FuncData} (M : Mg mg) (F : FunD K "common_in" "common_in" (defArgs (top 63)) (defBody (top 63)) (defScope (top 63)) [] [] f fd) (gf : mg "common_in" = some (.ref f)) (D_taken : DefOk P w K mg base 2 "taken" f_taken) (D_least : DefOk P w K mg base 3 "least" f_least) : DefOk P w K mg base 4 "common_in" f_common_in := by
  have sc := sc_common_in
  refine def_ok (P := P) (w := w) (K := K) (mg := mg) (base := base) (k := 3) F sc gf (fun _ _ _ _ _ _ us hl => match us, hl with | [_, _], _ => rfl) false b_common_in fun cdv A outer s H E hr => ?_
  have hu : (A.deeper (envOfC "common_in" (defScope (top 63)) s.heap.objs.size f cdv)).units + 64 < cLine := by have := hr.un; omega
  exact (ass_cons (as_unp rfl (aa_cons (AF.frozen (af_lc ⟨rfl, hu⟩ sc.nd (ai_seq (ae_var 1)) (blkOk_by (own := [("own", 4)]) (by kernel_rfl)) (by decide) (fun _ _ _ _ _ => (ag_name 4 sc.nd)) (fun _ _ _ _ _ => ats_nil) (fun _ _ _ _ _ => (AF.frozen (af_callTy l_list (by decide +kernel) M.f_list (ae_var 4)))))) (aa_cons (AF.cell (af_lst aa_nil)) aa_nil)) (ags_cons (ag_name 2 sc.nd) (ags_cons (ag_name 3 sc.nd) ags_nil)) (gsC_len (gsC_len (fun _ _ _ h => gsN_len h))))
  (ass_cons (as_for PassesOwn.never rfl (ai_range1 (aa_cons (ae_callB c_len (by decide +kernel) M.f_len (aa_cons (ae_ix (ae_var 2) ae_int) aa_nil)) aa_nil) M.f_range) (ag_name 5 sc.nd) (ass_cons (as_setLc (i := 6) (m := mFr c_common_in_3) ⟨rfl, hu⟩ sc.nd (ai_seq (AF.frozen (af_sortSet ⟨rfl, hu⟩ M.f_sorted M.f_set (ae_ix (ae_var 2) ae_int)))) (blkOk_by (own := [("letter", 7)]) (by kernel_rfl)) (by decide) (fun _ _ _ _ _ => (ag_name 7 sc.nd)) (fun _ _ _ _ _ => ats_nil) (fun _ _ _ _ _ => (AF.frozen (af_lc ⟨rfl, hu⟩ sc.nd (ai_seq (ae_var 2)) (blkOk_by (own := [("own", 4)]) (by kernel_rfl)) (by decide) (fun _ _ _ _ _ => (ag_name 4 sc.nd)) (fun _ _ _ _ _ => ats_nil) (fun _ _ _ _ _ => (ae_call D_taken (hr.mono (by decide)) (aa_cons (ae_var 0) (aa_cons (ae_var 7) (aa_cons (ae_var 4) aa_nil)))))))) (fun q => fr_te q))
  (ass_cons (as_setLc (i := 8) (m := mFr c_common_in_5) ⟨rfl, hu⟩ sc.nd (ai_enum (ae_var 6) M.f_enumerate) (blkOk_by (own := [("at", 9), ("row", 10)]) (by kernel_rfl)) (by decide) (fun _ _ _ _ _ => (ag_tup rfl (ags_cons (ag_name 9 sc.nd) (ags_cons (ag_name 10 sc.nd) ags_nil)) (gsC_len (gsC_len (fun _ _ _ h => gsN_len h))))) (fun _ _ _ _ _ => (ats_one (at_val (ae_callB (c_all ⟨rfl, hu⟩) (by decide +kernel) M.f_all (aa_cons (AF.frozen (af_lc ⟨rfl, hu⟩ sc.nd (ai_seq (ae_var 10)) (blkOk_by (own := [("own", 4)]) (by kernel_rfl)) (by decide) (fun _ _ _ _ _ => (ag_name 4 sc.nd)) (fun _ _ _ _ _ => ats_nil) (fun _ _ _ _ _ => (ae_cmp o_isN (ae_var 4) ae_non)))) aa_nil))))) (fun _ _ _ _ _ => (ae_var 9)) (fun q => fr_te q))
  (ass_cons (as_if (at_cmp (o_eq ⟨rfl, hu⟩) (ae_var 8) (AF.frozen (af_lst aa_nil))) (ass_one as_break) ass_nil)
  (ass_cons (as_do (ae_app (ae_var 3) (ae_ix (AF.frozen (af_sortSet ⟨rfl, hu⟩ M.f_sorted M.f_set (ae_ix (ae_var 2) ae_int))) (ae_ix (ae_var 8) ae_int))))
  (ass_one (as_set 2 sc.nd (ae_ix (ae_var 6) (ae_ix (ae_var 8) ae_int)))))))))
  (ass_one (as_ret (ae_call D_least (hr.mono (by decide)) (aa_cons (ae_var 0) (aa_cons (ae_var 3) aa_nil)))))))
theorem sc_rests_in : FnScope ["letters", "one", "other", "both"] ["letters", "one", "other"] (defScope (top 83)) := ⟨rfl, rfl, rfl, by decide +kernel, rfl, by decide +kernel, by decide +kernel⟩
theorem ok_rests_in {P : Program} {w : World} {K : PySem.W.Frag} {mg : Str → Option Value} {base : Heap} {f : Addr} {fd : FuncData} (M : Mg mg) (F : FunD K "rests_in" "rests_in" (defArgs (top 83)) (defBody (top 83)) (defScope (top 83)) [] [] f fd) (gf : mg "rests_in" = some (.ref f)) (D_common_in : DefOk P w K mg base 4 "common_in" f_common_in) (D_behind_in : DefOk P w K mg base 4 "behind_in" f_behind_in) : DefOk P w K mg base 5 "rests_in" f_rests_in := by
  have sc := sc_rests_in
  refine def_ok (P := P) (w := w) (K := K) (mg := mg) (base := base) (k := 4) F sc gf (fun _ _ _ _ _ _ us hl => match us, hl with | [_, _, _], _ => rfl) false b_rests_in fun cdv A outer s H E hr => ?_
  have hu : (A.deeper (envOfC "rests_in" (defScope (top 83)) s.heap.objs.size f cdv)).units + 64 < cLine := by have := hr.un; omega
  exact (ass_cons (as_set 3 sc.nd (ae_call D_common_in (hr.mono (by decide)) (aa_cons (ae_var 0) (aa_cons (ae_tup (aa_cons (ae_var 1) (aa_cons (ae_var 2) aa_nil))) aa_nil))))
  (ass_one (as_ret (ae_tup (aa_cons (ae_call D_behind_in (hr.mono (by decide)) (aa_cons (ae_var 0) (aa_cons (ae_var 3) (aa_cons (ae_var 1) aa_nil)))) (aa_cons (ae_call D_behind_in (hr.mono (by decide)) (aa_cons (ae_var 0) (aa_cons (ae_var 3) (aa_cons (ae_var 2) aa_nil)))) aa_nil))))))
theorem sc_above_bar : FnScope ["letters", "one", "other", "first", "second", "own", "far"] ["letters", "one", "other"] (defScope (top 87)) := ⟨rfl, rfl, rfl, by decide +kernel, rfl, by decide +kernel, by decide +kernel⟩
theorem ok_above_bar {P : Program} {w : World} {K : PySem.W.Frag} {mg : Str → Option Value} {base : Heap} {f : Addr} {fd : FuncData} (M : Mg mg) (F : FunD K "above_bar" "above_bar" (defArgs (top 87)) (defBody (top 87)) (defScope (top 87)) [] [] f fd) (gf : mg "above_bar" = some (.ref f)) (D_need_two : DefOk P w K mg base 6 "need_two" f_need_two) (D_rests_in : DefOk P w K mg base 5 "rests_in" f_rests_in) (D_is_free : DefOk P w K mg base 1 "is_free" f_is_free) : DefOk P w K mg base 7 "above_bar" f_above_bar := by
  have sc := sc_above_bar
  refine def_ok (P := P) (w := w) (K := K) (mg := mg) (base := base) (k := 6) F sc gf (fun _ _ _ _ _ _ us hl => match us, hl with | [_, _, _], _ => rfl) false b_above_bar fun cdv A outer s H E hr => ?_
  have hu : (A.deeper (envOfC "above_bar" (defScope (top 87)) s.heap.objs.size f cdv)).units + 64 < cLine := by have := hr.un; omega
  exact (ass_cons (as_do (ae_call D_need_two (hr.mono (by decide)) (aa_cons (ae_var 0) (aa_cons (ae_var 1) (aa_cons (ae_var 2) aa_nil)))))
  (ass_cons (as_asg (ae_call D_rests_in (hr.mono (by decide)) (aa_cons (ae_var 0) (aa_cons (ae_var 1) (aa_cons (ae_var 2) aa_nil)))) (ag_tup rfl (ags_cons (ag_name 3 sc.nd) (ags_cons (ag_name 4 sc.nd) ags_nil)) (gsC_len (gsC_len (fun _ _ _ h => gsN_len h)))))
  (ass_cons (as_for PassesOwn.never rfl (ai_seq (AF.frozen (af_sortSet ⟨rfl, hu⟩ M.f_sorted M.f_set (ae_var 3)))) (ag_name 5 sc.nd) (ass_one (as_for PassesOwn.never rfl (ai_seq (AF.frozen (af_sortSet ⟨rfl, hu⟩ M.f_sorted M.f_set (ae_var 4)))) (ag_name 6 sc.nd) (ass_one (as_if (at_not (at_val (ae_call D_is_free (hr.mono (by decide)) (aa_cons (ae_var 0) (aa_cons (ae_var 5) (aa_cons (ae_var 6) aa_nil)))))) (ass_one (as_ret (ae_tup (aa_cons (ae_var 5) (aa_cons (ae_var 6) aa_nil))))) ass_nil)))))
  (ass_one (as_ret ae_non)))))
theorem sc_apart_in : FnScope ["letters", "one", "other", "far", "own"] ["letters", "one", "other"] (defScope (top 64)) := ⟨rfl, rfl, rfl, by decide +kernel, rfl, by decide +kernel, by decide +kernel⟩
theorem ok_apart_in {P : Program} {w : World} {K : PySem.W.Frag} {mg : Str → Option Value} {base : Heap} {f : Addr} {fd : FuncData} (M : Mg mg) (F : FunD K "apart_in" "apart_in" (defArgs (top 64)) (defBody (top 64)) (defScope (top 64)) [] [] f fd) (gf : mg "apart_in" = some (.ref f)) (D_is_free : DefOk P w K mg base 1 "is_free" f_is_free) : DefOk P w K mg base 2 "apart_in" f_apart_in := by
  have sc := sc_apart_in
  refine def_ok (P := P) (w := w) (K := K) (mg := mg) (base := base) (k := 1) F sc gf (fun _ _ _ _ _ _ us hl => match us, hl with | [_, _, _], _ => rfl) false b_apart_in fun cdv A outer s H E hr => ?_
  have hu : (A.deeper (envOfC "apart_in" (defScope (top 64)) s.heap.objs.size f cdv)).units + 64 < cLine := by have := hr.un; omega
  exact (ass_one (as_ret (ae_callB (c_all ⟨rfl, hu⟩) (by decide +kernel) M.f_all (aa_cons (AF.frozen (af_lc ⟨rfl, hu⟩ sc.nd (ai_seq (ae_var 1)) (blkOk_by (own := [("own", 4)]) (by kernel_rfl)) (by decide) (fun _ _ _ _ _ => (ag_name 4 sc.nd)) (fun _ _ _ _ _ => ats_nil) (fun _ _ _ _ _ => (ae_callB (c_all ⟨rfl, hu⟩) (by decide +kernel) M.f_all (aa_cons (AF.frozen (af_lc ⟨rfl, hu⟩ sc.nd (ai_seq (ae_var 2)) (blkOk_by (own := [("far", 3)]) (by kernel_rfl)) (by decide) (fun _ _ _ _ _ => (ag_name 3 sc.nd)) (fun _ _ _ _ _ => ats_nil) (fun _ _ _ _ _ => (ae_call D_is_free (hr.mono (by decide)) (aa_cons (ae_var 0) (aa_cons (ae_var 4) (aa_cons (ae_var 3) aa_nil))))))) aa_nil))))) aa_nil))))
theorem sc_are_apart : FnScope ["letters", "one", "other"] ["letters", "one", "other"] (defScope (top 66)) := ⟨rfl, rfl, rfl, by decide +kernel, rfl, by decide +kernel, by decide +kernel⟩
theorem ok_are_apart {P : Program} {w : World} {K : PySem.W.Frag} {mg : Str → Option Value} {base : Heap} {f : Addr} {fd : FuncData} (M : Mg mg) (F : FunD K "are_apart" "are_apart" (defArgs (top 66)) (defBody (top 66)) (defScope (top 66)) [] [] f fd) (gf : mg "are_apart" = some (.ref f)) (D_need_two : DefOk P w K mg base 6 "need_two" f_need_two) (D_apart_in : DefOk P w K mg base 2 "apart_in" f_apart_in) : DefOk P w K mg base 7 "are_apart" f_are_apart := by
  have sc := sc_are_apart
  refine def_ok (P := P) (w := w) (K := K) (mg := mg) (base := base) (k := 6) F sc gf (fun _ _ _ _ _ _ us hl => match us, hl with | [_, _, _], _ => rfl) false b_are_apart fun cdv A outer s H E hr => ?_
  have hu : (A.deeper (envOfC "are_apart" (defScope (top 66)) s.heap.objs.size f cdv)).units + 64 < cLine := by have := hr.un; omega
  exact (ass_cons (as_do (ae_call D_need_two (hr.mono (by decide)) (aa_cons (ae_var 0) (aa_cons (ae_var 1) (aa_cons (ae_var 2) aa_nil)))))
  (ass_one (as_ret (ae_call D_apart_in (hr.mono (by decide)) (aa_cons (ae_var 0) (aa_cons (ae_var 1) (aa_cons (ae_var 2) aa_nil)))))))
theorem sc_need_four : FnScope ["letters", "piles", "own"] ["letters", "piles"] (defScope (top 68)) := ⟨rfl, rfl, rfl, by decide +kernel, rfl, by decide +kernel, by decide +kernel⟩
theorem ok_need_four {P : Program} {w : World} {K : PySem.W.Frag} {mg : Str → Option Value} {base : Heap} {f : Addr} {fd : FuncData} (M : Mg mg) (F : FunD K "need_four" "need_four" (defArgs (top 68)) (defBody (top 68)) (defScope (top 68)) [] [] f fd) (gf : mg "need_four" = some (.ref f)) (D_need_letters : DefOk P w K mg base 4 "need_letters" f_need_letters) (D_need_pile : DefOk P w K mg base 5 "need_pile" f_need_pile) : DefOk P w K mg base 6 "need_four" f_need_four := by
  have sc := sc_need_four
  refine def_ok (P := P) (w := w) (K := K) (mg := mg) (base := base) (k := 5) F sc gf (fun _ _ _ _ _ _ us hl => match us, hl with | [_, _], _ => rfl) false b_need_four fun cdv A outer s H E hr => ?_
  have hu : (A.deeper (envOfC "need_four" (defScope (top 68)) s.heap.objs.size f cdv)).units + 64 < cLine := by have := hr.un; omega
  exact (ass_cons (as_do (ae_call D_need_letters (hr.mono (by decide)) (aa_cons (ae_var 0) aa_nil)))
  (ass_one (as_for PassesOwn.never rfl (ai_seq (ae_var 1)) (ag_name 2 sc.nd) (ass_one (as_do (ae_call D_need_pile (hr.mono (by decide)) (aa_cons (ae_var 0) (aa_cons (ae_var 2) aa_nil))))))))
theorem sc_are_four_parts : FnScope ["letters", "x", "y", "z", "t", "value", "own", "p", "q", "r", "s", "told"] ["letters", "x", "y", "z", "t", "value"] (defScope (top 73)) := ⟨rfl, rfl, rfl, by decide +kernel, rfl, by decide +kernel, by decide +kernel⟩
theorem ok_are_four_parts {P : Program} {w : World} {K : PySem.W.Frag} {mg : Str → Option Value} {base : Heap} {f : Addr} {fd : FuncData} (M : Mg mg) (F : FunD K "are_four_parts" "are_four_parts" (defArgs (top 73)) (defBody (top 73)) (defScope (top 73)) [] [] f fd) (gf : mg "are_four_parts" = some (.ref f)) (D_need_four : DefOk P w K mg base 6 "need_four" f_need_four) (D_is_tuple_of : DefOk P w K mg base 1 "is_tuple_of" f_is_tuple_of) (D_is_pile_of : DefOk P w K mg base 4 "is_pile_of" f_is_pile_of) (D_least : DefOk P w K mg base 3 "least" f_least) (D_apart_in : DefOk P w K mg base 2 "apart_in" f_apart_in) : DefOk P w K mg base 7 "are_four_parts" f_are_four_parts := by
  have sc := sc_are_four_parts
  refine def_ok (P := P) (w := w) (K := K) (mg := mg) (base := base) (k := 6) F sc gf (fun _ _ _ _ _ _ us hl => match us, hl with | [_, _, _, _, _, _], _ => rfl) false b_are_four_parts fun cdv A outer s H E hr => ?_
  have hu : (A.deeper (envOfC "are_four_parts" (defScope (top 73)) s.heap.objs.size f cdv)).units + 64 < cLine := by have := hr.un; omega
  exact (ass_cons (as_do (ae_call D_need_four (hr.mono (by decide)) (aa_cons (ae_var 0) (aa_cons (ae_tup (aa_cons (ae_var 1) (aa_cons (ae_var 2) (aa_cons (ae_var 3) (aa_cons (ae_var 4) aa_nil))))) aa_nil))))
  (ass_cons (as_if (at_w (aw_or (at_not (at_val (ae_call D_is_tuple_of (hr.mono (by decide)) (aa_cons (ae_var 5) (aa_cons ae_int (aa_cons ae_int aa_nil)))))) (aw_or1 (at_not (at_val (ae_callB (c_all ⟨rfl, hu⟩) (by decide +kernel) M.f_all (aa_cons (AF.frozen (af_lc ⟨rfl, hu⟩ sc.nd (ai_seq (ae_var 5)) (blkOk_by (own := [("own", 6)]) (by kernel_rfl)) (by decide) (fun _ _ _ _ _ => (ag_name 6 sc.nd)) (fun _ _ _ _ _ => ats_nil) (fun _ _ _ _ _ => (ae_call D_is_pile_of (hr.mono (by decide)) (aa_cons (ae_var 0) (aa_cons (ae_var 6) aa_nil)))))) aa_nil))))))) (ass_one (as_ret ae_bl)) ass_nil)
  (ass_cons (as_asg (ae_var 5) (ag_tup rfl (ags_cons (ag_name 7 sc.nd) (ags_cons (ag_name 8 sc.nd) (ags_cons (ag_name 9 sc.nd) (ags_cons (ag_name 10 sc.nd) ags_nil)))) (gsC_len (gsC_len (gsC_len (gsC_len (fun _ _ _ h => gsN_len h)))))))
  (ass_cons (as_setLc (i := 11) (m := mFr c_are_four_parts_2) ⟨rfl, hu⟩ sc.nd (ai_seq (ae_tup (aa_cons (ae_op o_add (ae_var 7) (ae_var 8)) (aa_cons (ae_op o_add (ae_var 9) (ae_var 10)) (aa_cons (ae_op o_add (ae_var 7) (ae_var 9)) (aa_cons (ae_op o_add (ae_var 8) (ae_var 10)) aa_nil)))))) (blkOk_by (own := [("own", 6)]) (by kernel_rfl)) (by decide) (fun _ _ _ _ _ => (ag_name 6 sc.nd)) (fun _ _ _ _ _ => ats_nil) (fun _ _ _ _ _ => (ae_call D_least (hr.mono (by decide)) (aa_cons (ae_var 0) (aa_cons (ae_var 6) aa_nil)))) (fun q => fr_te q))
  (ass_one (as_ret (ae_and (ae_cmp (o_eq ⟨rfl, hu⟩) (ae_var 11) (AF.frozen (af_lst (aa_cons (ae_var 1) (aa_cons (ae_var 2) (aa_cons (ae_var 3) (aa_cons (ae_var 4) aa_nil))))))) (ae_one (ae_call D_apart_in (hr.mono (by decide)) (aa_cons (ae_var 0) (aa_cons (ae_var 8) (aa_cons (ae_var 9) aa_nil))))))))))))
theorem sc_need_word : FnScope ["letters", "value"] ["letters", "value"] (defScope (top 30)) := ⟨rfl, rfl, rfl, by decide +kernel, rfl, by decide +kernel, by decide +kernel⟩
theorem ok_need_word {P : Program} {w : World} {K : PySem.W.Frag} {mg : Str → Option Value} {base : Heap} {f : Addr} {fd : FuncData} (M : Mg mg) (F : FunD K "need_word" "need_word" (defArgs (top 30)) (defBody (top 30)) (defScope (top 30)) [] [] f fd) (gf : mg "need_word" = some (.ref f)) (D_is_word_of : DefOk P w K mg base 2 "is_word_of" f_is_word_of) : DefOk P w K mg base 3 "need_word" f_need_word := by
  have sc := sc_need_word
  refine def_ok (P := P) (w := w) (K := K) (mg := mg) (base := base) (k := 2) F sc gf (fun _ _ _ _ _ _ us hl => match us, hl with | [_, _], _ => rfl) false b_need_word fun cdv A outer s H E hr => ?_
  have hu : (A.deeper (envOfC "need_word" (defScope (top 30)) s.heap.objs.size f cdv)).units + 64 < cLine := by have := hr.un; omega
  exact (ass_one (as_if (at_not (at_val (ae_call D_is_word_of (hr.mono (by decide)) (aa_cons (ae_var 0) (aa_cons (ae_var 1) aa_nil))))) (ass_one as_never) ass_nil))
theorem sc_step_in : FnScope ["letters", "barred", "letter", "some", "own"] ["letters", "barred", "letter"] (defScope (top 37)) := ⟨rfl, rfl, rfl, by decide +kernel, rfl, by decide +kernel, by decide +kernel⟩
theorem ok_step_in {P : Program} {w : World} {K : PySem.W.Frag} {mg : Str → Option Value} {base : Heap} {f : Addr} {fd : FuncData} (M : Mg mg) (F : FunD K "step_in" "step_in" (defArgs (top 37)) (defBody (top 37)) (defScope (top 37)) [] [] f fd) (gf : mg "step_in" = some (.ref f)) (D_is_free : DefOk P w K mg base 1 "is_free" f_is_free) : DefOk P w K mg base 2 "step_in" f_step_in := by
  have sc := sc_step_in
  refine def_ok (P := P) (w := w) (K := K) (mg := mg) (base := base) (k := 1) F sc gf (fun _ _ _ _ _ _ us hl => match us, hl with | [_, _, _], _ => rfl) false b_step_in fun cdv A outer s H E hr => ?_
  have hu : (A.deeper (envOfC "step_in" (defScope (top 37)) s.heap.objs.size f cdv)).units + 64 < cLine := by have := hr.un; omega
  exact (ass_cons (as_setLc (i := 3) (m := mFr c_step_in_1) ⟨rfl, hu⟩ sc.nd (ai_range1 (aa_cons (ae_ix (ae_var 0) ae_int) aa_nil) M.f_range) (blkOk_by (own := [("own", 4)]) (by kernel_rfl)) (by decide) (fun _ _ _ _ _ => (ag_name 4 sc.nd)) (fun _ _ _ _ _ => (ats_one (at_w (aw_or (at_cmp (o_lt ⟨rfl, hu⟩) (ae_var 4) (ae_var 2)) (aw_or1 (at_cmp (o_in ⟨rfl, hu⟩) (ae_var 4) (ae_var 1))))))) (fun _ _ _ _ _ => (ae_var 4)) (fun q => fr_te q))
  (ass_one (as_ret (ae_callTy c_tuple (by decide +kernel) M.f_tuple (aa_cons (AF.frozen (af_lc ⟨rfl, hu⟩ sc.nd (ai_seq (ae_var 3)) (blkOk_by (own := [("own", 4)]) (by kernel_rfl)) (by decide) (fun _ _ _ _ _ => (ag_name 4 sc.nd)) (fun _ _ _ _ _ => (ats_one (at_val (ae_call D_is_free (hr.mono (by decide)) (aa_cons (ae_var 0) (aa_cons (ae_var 4) (aa_cons (ae_var 2) aa_nil))))))) (fun _ _ _ _ _ => (ae_var 4)))) aa_nil)))))
theorem sc_barred_behind : FnScope ["letters", "word", "barred", "letter"] ["letters", "word"] (defScope (top 38)) := ⟨rfl, rfl, rfl, by decide +kernel, rfl, by decide +kernel, by decide +kernel⟩
theorem ok_barred_behind {P : Program} {w : World} {K : PySem.W.Frag} {mg : Str → Option Value} {base : Heap} {f : Addr} {fd : FuncData} (M : Mg mg) (F : FunD K "barred_behind" "barred_behind" (defArgs (top 38)) (defBody (top 38)) (defScope (top 38)) [] [] f fd) (gf : mg "barred_behind" = some (.ref f)) (D_need_letters : DefOk P w K mg base 4 "need_letters" f_need_letters) (D_need_word : DefOk P w K mg base 3 "need_word" f_need_word) (D_step_in : DefOk P w K mg base 2 "step_in" f_step_in) : DefOk P w K mg base 5 "barred_behind" f_barred_behind := by
  have sc := sc_barred_behind
  refine def_ok (P := P) (w := w) (K := K) (mg := mg) (base := base) (k := 4) F sc gf (fun _ _ _ _ _ _ us hl => match us, hl with | [_, _], _ => rfl) false b_barred_behind fun cdv A outer s H E hr => ?_
  have hu : (A.deeper (envOfC "barred_behind" (defScope (top 38)) s.heap.objs.size f cdv)).units + 64 < cLine := by have := hr.un; omega
  exact (ass_cons (as_do (ae_call D_need_letters (hr.mono (by decide)) (aa_cons (ae_var 0) aa_nil)))
  (ass_cons (as_do (ae_call D_need_word (hr.mono (by decide)) (aa_cons (ae_var 0) (aa_cons (ae_var 1) aa_nil))))
  (ass_cons (as_set 2 sc.nd (ae_tup aa_nil))
  (ass_cons (as_for PassesOwn.never rfl (ai_seq (ae_var 1)) (ag_name 3 sc.nd) (ass_cons (as_if (at_cmp (o_in ⟨rfl, hu⟩) (ae_var 3) (ae_var 2)) (ass_one (as_ret ae_non)) ass_nil)
  (ass_one (as_set 2 sc.nd (ae_call D_step_in (hr.mono (by decide)) (aa_cons (ae_var 0) (aa_cons (ae_var 2) (aa_cons (ae_var 3) aa_nil))))))))
  (ass_one (as_ret (ae_var 2)))))))
theorem sc_need_piles : FnScope ["letters", "value", "own"] ["letters", "value"] (defScope (top 61)) := ⟨rfl, rfl, rfl, by decide +kernel, rfl, by decide +kernel, by decide +kernel⟩
theorem ok_need_piles {P : Program} {w : World} {K : PySem.W.Frag} {mg : Str → Option Value} {base : Heap} {f : Addr} {fd : FuncData} (M : Mg mg) (F : FunD K "need_piles" "need_piles" (defArgs (top 61)) (defBody (top 61)) (defScope (top 61)) [] [] f fd) (gf : mg "need_piles" = some (.ref f)) (D_is_tuple_of : DefOk P w K mg base 1 "is_tuple_of" f_is_tuple_of) (D_is_pile_of : DefOk P w K mg base 4 "is_pile_of" f_is_pile_of) : DefOk P w K mg base 5 "need_piles" f_need_piles := by
  obtain ⟨t_MOST_commonpiles, h_MOST_commonpiles⟩ := M.i_MOST_commonpiles
  have sc := sc_need_piles
  refine def_ok (P := P) (w := w) (K := K) (mg := mg) (base := base) (k := 4) F sc gf (fun _ _ _ _ _ _ us hl => match us, hl with | [_, _], _ => rfl) false b_need_piles fun cdv A outer s H E hr => ?_
  have hu : (A.deeper (envOfC "need_piles" (defScope (top 61)) s.heap.objs.size f cdv)).units + 64 < cLine := by have := hr.un; omega
  exact (ass_one (as_if (at_w (aw_or (at_not (at_val (ae_call D_is_tuple_of (hr.mono (by decide)) (aa_cons (ae_var 1) (aa_cons ae_int (aa_cons (ae_globI (by rfl) h_MOST_commonpiles) aa_nil)))))) (aw_or1 (at_not (at_val (ae_callB (c_all ⟨rfl, hu⟩) (by decide +kernel) M.f_all (aa_cons (AF.frozen (af_lc ⟨rfl, hu⟩ sc.nd (ai_seq (ae_var 1)) (blkOk_by (own := [("own", 2)]) (by kernel_rfl)) (by decide) (fun _ _ _ _ _ => (ag_name 2 sc.nd)) (fun _ _ _ _ _ => ats_nil) (fun _ _ _ _ _ => (ae_call D_is_pile_of (hr.mono (by decide)) (aa_cons (ae_var 0) (aa_cons (ae_var 2) aa_nil)))))) aa_nil))))))) (ass_one as_never) ass_nil))
theorem sc_need_all : FnScope ["letters", "piles"] ["letters", "piles"] (defScope (top 62)) := ⟨rfl, rfl, rfl, by decide +kernel, rfl, by decide +kernel, by decide +kernel⟩
theorem ok_need_all {P : Program} {w : World} {K : PySem.W.Frag} {mg : Str → Option Value} {base : Heap} {f : Addr} {fd : FuncData} (M : Mg mg) (F : FunD K "need_all" "need_all" (defArgs (top 62)) (defBody (top 62)) (defScope (top 62)) [] [] f fd) (gf : mg "need_all" = some (.ref f)) (D_need_letters : DefOk P w K mg base 4 "need_letters" f_need_letters) (D_need_piles : DefOk P w K mg base 5 "need_piles" f_need_piles) : DefOk P w K mg base 6 "need_all" f_need_all := by
  have sc := sc_need_all
  refine def_ok (P := P) (w := w) (K := K) (mg := mg) (base := base) (k := 5) F sc gf (fun _ _ _ _ _ _ us hl => match us, hl with | [_, _], _ => rfl) false b_need_all fun cdv A outer s H E hr => ?_
  have hu : (A.deeper (envOfC "need_all" (defScope (top 62)) s.heap.objs.size f cdv)).units + 64 < cLine := by have := hr.un; omega
  exact (ass_cons (as_do (ae_call D_need_letters (hr.mono (by decide)) (aa_cons (ae_var 0) aa_nil)))
  (ass_one (as_do (ae_call D_need_piles (hr.mono (by decide)) (aa_cons (ae_var 0) (aa_cons (ae_var 1) aa_nil))))))
theorem sc_common_beginning : FnScope ["letters", "piles"] ["letters", "piles"] (defScope (top 65)) := ⟨rfl, rfl, rfl, by decide +kernel, rfl, by decide +kernel, by decide +kernel⟩
theorem ok_common_beginning {P : Program} {w : World} {K : PySem.W.Frag} {mg : Str → Option Value} {base : Heap} {f : Addr} {fd : FuncData} (M : Mg mg) (F : FunD K "common_beginning" "common_beginning" (defArgs (top 65)) (defBody (top 65)) (defScope (top 65)) [] [] f fd) (gf : mg "common_beginning" = some (.ref f)) (D_need_all : DefOk P w K mg base 6 "need_all" f_need_all) (D_common_in : DefOk P w K mg base 4 "common_in" f_common_in) : DefOk P w K mg base 7 "common_beginning" f_common_beginning := by
  have sc := sc_common_beginning
  refine def_ok (P := P) (w := w) (K := K) (mg := mg) (base := base) (k := 6) F sc gf (fun _ _ _ _ _ _ us hl => match us, hl with | [_, _], _ => rfl) false b_common_beginning fun cdv A outer s H E hr => ?_
  have hu : (A.deeper (envOfC "common_beginning" (defScope (top 65)) s.heap.objs.size f cdv)).units + 64 < cLine := by have := hr.un; omega
  exact (ass_cons (as_do (ae_call D_need_all (hr.mono (by decide)) (aa_cons (ae_var 0) (aa_cons (ae_var 1) aa_nil))))
  (ass_one (as_ret (ae_call D_common_in (hr.mono (by decide)) (aa_cons (ae_var 0) (aa_cons (ae_var 1) aa_nil))))))
theorem sc_are_alike_in : FnScope ["letters", "x", "y", "z", "t"] ["letters", "x", "y", "z", "t"] (defScope (top 69)) := ⟨rfl, rfl, rfl, by decide +kernel, rfl, by decide +kernel, by decide +kernel⟩
theorem ok_are_alike_in {P : Program} {w : World} {K : PySem.W.Frag} {mg : Str → Option Value} {base : Heap} {f : Addr} {fd : FuncData} (M : Mg mg) (F : FunD K "are_alike_in" "are_alike_in" (defArgs (top 69)) (defBody (top 69)) (defScope (top 69)) [] [] f fd) (gf : mg "are_alike_in" = some (.ref f)) (D_least : DefOk P w K mg base 3 "least" f_least) : DefOk P w K mg base 4 "are_alike_in" f_are_alike_in := by
  have sc := sc_are_alike_in
  refine def_ok (P := P) (w := w) (K := K) (mg := mg) (base := base) (k := 3) F sc gf (fun _ _ _ _ _ _ us hl => match us, hl with | [_, _, _, _, _], _ => rfl) false b_are_alike_in fun cdv A outer s H E hr => ?_
  have hu : (A.deeper (envOfC "are_alike_in" (defScope (top 69)) s.heap.objs.size f cdv)).units + 64 < cLine := by have := hr.un; omega
  exact (ass_one (as_ret (ae_cmp (o_eq ⟨rfl, hu⟩) (ae_call D_least (hr.mono (by decide)) (aa_cons (ae_var 0) (aa_cons (ae_op o_add (ae_var 1) (ae_var 2)) aa_nil))) (ae_call D_least (hr.mono (by decide)) (aa_cons (ae_var 0) (aa_cons (ae_op o_add (ae_var 3) (ae_var 4)) aa_nil))))))
theorem sc_need_joins : FnScope ["letters", "x", "y", "z", "t"] ["letters", "x", "y", "z", "t"] (defScope (top 71)) := ⟨rfl, rfl, rfl, by decide +kernel, rfl, by decide +kernel, by decide +kernel⟩
theorem ok_need_joins {P : Program} {w : World} {K : PySem.W.Frag} {mg : Str → Option Value} {base : Heap} {f : Addr} {fd : FuncData} (M : Mg mg) (F : FunD K "need_joins" "need_joins" (defArgs (top 71)) (defBody (top 71)) (defScope (top 71)) [] [] f fd) (gf : mg "need_joins" = some (.ref f)) (D_need_four : DefOk P w K mg base 6 "need_four" f_need_four) (D_are_alike_in : DefOk P w K mg base 4 "are_alike_in" f_are_alike_in) : DefOk P w K mg base 7 "need_joins" f_need_joins := by
  have sc := sc_need_joins
  refine def_ok (P := P) (w := w) (K := K) (mg := mg) (base := base) (k := 6) F sc gf (fun _ _ _ _ _ _ us hl => match us, hl with | [_, _, _, _, _], _ => rfl) false b_need_joins fun cdv A outer s H E hr => ?_
  have hu : (A.deeper (envOfC "need_joins" (defScope (top 71)) s.heap.objs.size f cdv)).units + 64 < cLine := by have := hr.un; omega
  exact (ass_cons (as_do (ae_call D_need_four (hr.mono (by decide)) (aa_cons (ae_var 0) (aa_cons (ae_tup (aa_cons (ae_var 1) (aa_cons (ae_var 2) (aa_cons (ae_var 3) (aa_cons (ae_var 4) aa_nil))))) aa_nil))))
  (ass_one (as_if (at_not (at_val (ae_call D_are_alike_in (hr.mono (by decide)) (aa_cons (ae_var 0) (aa_cons (ae_var 1) (aa_cons (ae_var 2) (aa_cons (ae_var 3) (aa_cons (ae_var 4) aa_nil)))))))) (ass_one as_never) ass_nil)))
theorem sc_parts_in : FnScope ["letters", "x", "y", "z", "t", "p", "q", "r"] ["letters", "x", "y", "z", "t"] (defScope (top 70)) := ⟨rfl, rfl, rfl, by decide +kernel, rfl, by decide +kernel, by decide +kernel⟩
theorem ok_parts_in {P : Program} {w : World} {K : PySem.W.Frag} {mg : Str → Option Value} {base : Heap} {f : Addr} {fd : FuncData} (M : Mg mg) (F : FunD K "parts_in" "parts_in" (defArgs (top 70)) (defBody (top 70)) (defScope (top 70)) [] [] f fd) (gf : mg "parts_in" = some (.ref f)) (D_common_in : DefOk P w K mg base 4 "common_in" f_common_in) (D_behind_in : DefOk P w K mg base 4 "behind_in" f_behind_in) : DefOk P w K mg base 5 "parts_in" f_parts_in := by
  have sc := sc_parts_in
  refine def_ok (P := P) (w := w) (K := K) (mg := mg) (base := base) (k := 4) F sc gf (fun _ _ _ _ _ _ us hl => match us, hl with | [_, _, _, _, _], _ => rfl) false b_parts_in fun cdv A outer s H E hr => ?_
  have hu : (A.deeper (envOfC "parts_in" (defScope (top 70)) s.heap.objs.size f cdv)).units + 64 < cLine := by have := hr.un; omega
  exact (ass_cons (as_set 5 sc.nd (ae_call D_common_in (hr.mono (by decide)) (aa_cons (ae_var 0) (aa_cons (ae_tup (aa_cons (ae_var 1) (aa_cons (ae_var 3) aa_nil))) aa_nil))))
  (ass_cons (as_par (i := 6) (j := 7) rfl sc.nd (aa_cons (ae_call D_behind_in (hr.mono (by decide)) (aa_cons (ae_var 0) (aa_cons (ae_var 5) (aa_cons (ae_var 1) aa_nil)))) (aa_cons (ae_call D_behind_in (hr.mono (by decide)) (aa_cons (ae_var 0) (aa_cons (ae_var 5) (aa_cons (ae_var 3) aa_nil)))) aa_nil)))
  (ass_one (as_ret (ae_tup (aa_cons (ae_var 5) (aa_cons (ae_var 6) (aa_cons (ae_var 7) (aa_cons (ae_call D_behind_in (hr.mono (by decide)) (aa_cons (ae_var 0) (aa_cons (ae_var 7) (aa_cons (ae_var 2) aa_nil)))) aa_nil)))))))))
theorem sc_four_parts : FnScope ["letters", "x", "y", "z", "t"] ["letters", "x", "y", "z", "t"] (defScope (top 72)) := ⟨rfl, rfl, rfl, by decide +kernel, rfl, by decide +kernel, by decide +kernel⟩
theorem ok_four_parts {P : Program} {w : World} {K : PySem.W.Frag} {mg : Str → Option Value} {base : Heap} {f : Addr} {fd : FuncData} (M : Mg mg) (F : FunD K "four_parts" "four_parts" (defArgs (top 72)) (defBody (top 72)) (defScope (top 72)) [] [] f fd) (gf : mg "four_parts" = some (.ref f)) (D_need_joins : DefOk P w K mg base 7 "need_joins" f_need_joins) (D_parts_in : DefOk P w K mg base 5 "parts_in" f_parts_in) : DefOk P w K mg base 8 "four_parts" f_four_parts := by
  have sc := sc_four_parts
  refine def_ok (P := P) (w := w) (K := K) (mg := mg) (base := base) (k := 7) F sc gf (fun _ _ _ _ _ _ us hl => match us, hl with | [_, _, _, _, _], _ => rfl) false b_four_parts fun cdv A outer s H E hr => ?_
  have hu : (A.deeper (envOfC "four_parts" (defScope (top 72)) s.heap.objs.size f cdv)).units + 64 < cLine := by have := hr.un; omega
  exact (ass_cons (as_do (ae_call D_need_joins (hr.mono (by decide)) (aa_cons (ae_var 0) (aa_cons (ae_var 1) (aa_cons (ae_var 2) (aa_cons (ae_var 3) (aa_cons (ae_var 4) aa_nil)))))))
  (ass_one (as_ret (ae_call D_parts_in (hr.mono (by decide)) (aa_cons (ae_var 0) (aa_cons (ae_var 1) (aa_cons (ae_var 2) (aa_cons (ae_var 3) (aa_cons (ae_var 4) aa_nil)))))))))
theorem sc_every_letter : FnScope ["letters"] ["letters"] (defScope (top 23)) := ⟨rfl, rfl, rfl, by decide +kernel, rfl, by decide +kernel, by decide +kernel⟩
theorem ok_every_letter {P : Program} {w : World} {K : PySem.W.Frag} {mg : Str → Option Value} {base : Heap} {f : Addr} {fd : FuncData} (M : Mg mg) (F : FunD K "every_letter" "every_letter" (defArgs (top 23)) (defBody (top 23)) (defScope (top 23)) [] [] f fd) (gf : mg "every_letter" = some (.ref f)) : DefOk P w K mg base 1 "every_letter" f_every_letter := by
  have sc := sc_every_letter
  refine def_ok (P := P) (w := w) (K := K) (mg := mg) (base := base) (k := 0) F sc gf (fun _ _ _ _ _ _ us hl => match us, hl with | [_], _ => rfl) false b_every_letter fun cdv A outer s H E hr => ?_
  have hu : (A.deeper (envOfC "every_letter" (defScope (top 23)) s.heap.objs.size f cdv)).units + 64 < cLine := by have := hr.un; omega
  exact (ass_one (as_ret (ae_tupRg ⟨rfl, hu⟩ M.f_tuple M.f_range (ae_ix (ae_var 0) ae_int))))
theorem sc_sets_in : FnScope ["letters", "some", "found", "letter", "own", "far"] ["letters", "some"] (defScope (top 20)) := ⟨rfl, rfl, rfl, by decide +kernel, rfl, by decide +kernel, by decide +kernel⟩
theorem ok_sets_in {P : Program} {w : World} {K : PySem.W.Frag} {mg : Str → Option Value} {base : Heap} {f : Addr} {fd : FuncData} (M : Mg mg) (F : FunD K "sets_in" "sets_in" (defArgs (top 20)) (defBody (top 20)) (defScope (top 20)) [] [] f fd) (gf : mg "sets_in" = some (.ref f)) (D_is_free : DefOk P w K mg base 1 "is_free" f_is_free) : DefOk P w K mg base 2 "sets_in" f_sets_in := by
  have sc := sc_sets_in
  refine def_ok (P := P) (w := w) (K := K) (mg := mg) (base := base) (k := 1) F sc gf (fun _ _ _ _ _ _ us hl => match us, hl with | [_, _], _ => rfl) false b_sets_in fun cdv A outer s H E hr => ?_
  have hu : (A.deeper (envOfC "sets_in" (defScope (top 20)) s.heap.objs.size f cdv)).units + 64 < cLine := by have := hr.un; omega
  exact (ass_cons (as_set 2 sc.nd (AF.frozen (af_lst (aa_cons (ae_tup aa_nil) aa_nil))))
  (ass_cons (as_for PassesOwn.never rfl (ai_seq (ae_var 1)) (ag_name 3 sc.nd) (ass_one (as_set 2 sc.nd (ae_op o_add (ae_var 2) (AF.frozen (af_lc ⟨rfl, hu⟩ sc.nd (ai_seq (ae_var 2)) (blkOk_by (own := [("own", 4)]) (by kernel_rfl)) (by decide) (fun _ _ _ _ _ => (ag_name 4 sc.nd)) (fun _ _ _ _ _ => (ats_one (at_val (ae_callB (c_all ⟨rfl, hu⟩) (by decide +kernel) M.f_all (aa_cons (AF.frozen (af_lc ⟨rfl, hu⟩ sc.nd (ai_seq (ae_var 4)) (blkOk_by (own := [("far", 5)]) (by kernel_rfl)) (by decide) (fun _ _ _ _ _ => (ag_name 5 sc.nd)) (fun _ _ _ _ _ => ats_nil) (fun _ _ _ _ _ => (ae_call D_is_free (hr.mono (by decide)) (aa_cons (ae_var 0) (aa_cons (ae_var 3) (aa_cons (ae_var 5) aa_nil))))))) aa_nil))))) (fun _ _ _ _ _ => (ae_op o_add (ae_var 4) (ae_tup (aa_cons (ae_var 3) aa_nil))))))))))
  (ass_one (as_ret (AF.frozen (af_callB (l_sorted ⟨rfl, hu⟩) (by decide +kernel) M.f_sorted (ae_var 2)))))))
theorem sc_free_sets : FnScope ["letters"] ["letters"] (defScope (top 24)) := ⟨rfl, rfl, rfl, by decide +kernel, rfl, by decide +kernel, by decide +kernel⟩
theorem ok_free_sets {P : Program} {w : World} {K : PySem.W.Frag} {mg : Str → Option Value} {base : Heap} {f : Addr} {fd : FuncData} (M : Mg mg) (F : FunD K "free_sets" "free_sets" (defArgs (top 24)) (defBody (top 24)) (defScope (top 24)) [] [] f fd) (gf : mg "free_sets" = some (.ref f)) (D_need_letters : DefOk P w K mg base 4 "need_letters" f_need_letters) (D_sets_in : DefOk P w K mg base 2 "sets_in" f_sets_in) (D_every_letter : DefOk P w K mg base 1 "every_letter" f_every_letter) : DefOk P w K mg base 5 "free_sets" f_free_sets := by
  have sc := sc_free_sets
  refine def_ok (P := P) (w := w) (K := K) (mg := mg) (base := base) (k := 4) F sc gf (fun _ _ _ _ _ _ us hl => match us, hl with | [_], _ => rfl) false b_free_sets fun cdv A outer s H E hr => ?_
  have hu : (A.deeper (envOfC "free_sets" (defScope (top 24)) s.heap.objs.size f cdv)).units + 64 < cLine := by have := hr.un; omega
  exact (ass_cons (as_do (ae_call D_need_letters (hr.mono (by decide)) (aa_cons (ae_var 0) aa_nil)))
  (ass_one (as_ret (ae_callTy c_tuple (by decide +kernel) M.f_tuple (aa_cons (ae_call D_sets_in (hr.mono (by decide)) (aa_cons (ae_var 0) (aa_cons (ae_call D_every_letter (hr.mono (by decide)) (aa_cons (ae_var 0) aa_nil)) aa_nil))) aa_nil)))))
theorem sc_is_some : FnScope ["letters", "value", "own", "at"] ["letters", "value"] (defScope (top 21)) := ⟨rfl, rfl, rfl, by decide +kernel, rfl, by decide +kernel, by decide +kernel⟩
theorem ok_is_some {P : Program} {w : World} {K : PySem.W.Frag} {mg : Str → Option Value} {base : Heap} {f : Addr} {fd : FuncData} (M : Mg mg) (F : FunD K "is_some" "is_some" (defArgs (top 21)) (defBody (top 21)) (defScope (top 21)) [] [] f fd) (gf : mg "is_some" = some (.ref f)) (D_is_tuple_of : DefOk P w K mg base 1 "is_tuple_of" f_is_tuple_of) (D_is_whole : DefOk P w K mg base 1 "is_whole" f_is_whole) : DefOk P w K mg base 2 "is_some" f_is_some := by
  have sc := sc_is_some
  refine def_ok (P := P) (w := w) (K := K) (mg := mg) (base := base) (k := 1) F sc gf (fun _ _ _ _ _ _ us hl => match us, hl with | [_, _], _ => rfl) false b_is_some fun cdv A outer s H E hr => ?_
  have hu : (A.deeper (envOfC "is_some" (defScope (top 21)) s.heap.objs.size f cdv)).units + 64 < cLine := by have := hr.un; omega
  exact (ass_cons (as_if (at_w (aw_or (at_not (at_val (ae_call D_is_tuple_of (hr.mono (by decide)) (aa_cons (ae_var 1) (aa_cons ae_int (aa_cons (ae_ix (ae_var 0) ae_int) aa_nil)))))) (aw_or1 (at_not (at_val (ae_callB (c_all ⟨rfl, hu⟩) (by decide +kernel) M.f_all (aa_cons (AF.frozen (af_lc ⟨rfl, hu⟩ sc.nd (ai_seq (ae_var 1)) (blkOk_by (own := [("own", 2)]) (by kernel_rfl)) (by decide) (fun _ _ _ _ _ => (ag_name 2 sc.nd)) (fun _ _ _ _ _ => ats_nil) (fun _ _ _ _ _ => (ae_call D_is_whole (hr.mono (by decide)) (aa_cons (ae_var 2) (aa_cons ae_int (aa_cons (ae_op o_sub (ae_ix (ae_var 0) ae_int) ae_int) aa_nil))))))) aa_nil))))))) (ass_one (as_ret ae_bl)) ass_nil)
  (ass_one (as_ret (ae_callB (c_all ⟨rfl, hu⟩) (by decide +kernel) M.f_all (aa_cons (AF.frozen (af_lc ⟨rfl, hu⟩ sc.nd (ai_range1 (aa_cons (ae_op o_sub (ae_callB c_len (by decide +kernel) M.f_len (aa_cons (ae_var 1) aa_nil)) ae_int) aa_nil) M.f_range) (blkOk_by (own := [("at", 3)]) (by kernel_rfl)) (by decide) (fun _ _ _ _ _ => (ag_name 3 sc.nd)) (fun _ _ _ _ _ => ats_nil) (fun _ _ _ _ _ => (ae_cmp (o_lt ⟨rfl, hu⟩) (ae_ix (ae_var 1) (ae_var 3)) (ae_ix (ae_var 1) (ae_op o_add (ae_var 3) ae_int)))))) aa_nil)))))
theorem sc_is_free_in : FnScope ["letters", "value", "far", "at", "own"] ["letters", "value"] (defScope (top 22)) := ⟨rfl, rfl, rfl, by decide +kernel, rfl, by decide +kernel, by decide +kernel⟩
theorem ok_is_free_in {P : Program} {w : World} {K : PySem.W.Frag} {mg : Str → Option Value} {base : Heap} {f : Addr} {fd : FuncData} (M : Mg mg) (F : FunD K "is_free_in" "is_free_in" (defArgs (top 22)) (defBody (top 22)) (defScope (top 22)) [] [] f fd) (gf : mg "is_free_in" = some (.ref f)) (D_is_some : DefOk P w K mg base 2 "is_some" f_is_some) (D_is_free : DefOk P w K mg base 1 "is_free" f_is_free) : DefOk P w K mg base 3 "is_free_in" f_is_free_in := by
  have sc := sc_is_free_in
  refine def_ok (P := P) (w := w) (K := K) (mg := mg) (base := base) (k := 2) F sc gf (fun _ _ _ _ _ _ us hl => match us, hl with | [_, _], _ => rfl) false b_is_free_in fun cdv A outer s H E hr => ?_
  have hu : (A.deeper (envOfC "is_free_in" (defScope (top 22)) s.heap.objs.size f cdv)).units + 64 < cLine := by have := hr.un; omega
  exact (ass_cons (as_if (at_not (at_val (ae_call D_is_some (hr.mono (by decide)) (aa_cons (ae_var 0) (aa_cons (ae_var 1) aa_nil))))) (ass_one (as_ret ae_bl)) ass_nil)
  (ass_one (as_ret (ae_callB (c_all ⟨rfl, hu⟩) (by decide +kernel) M.f_all (aa_cons (AF.frozen (af_lc ⟨rfl, hu⟩ sc.nd (ai_enum (ae_var 1) M.f_enumerate) (blkOk_by (own := [("at", 3), ("own", 4)]) (by kernel_rfl)) (by decide) (fun _ _ _ _ _ => (ag_tup rfl (ags_cons (ag_name 3 sc.nd) (ags_cons (ag_name 4 sc.nd) ags_nil)) (gsC_len (gsC_len (fun _ _ _ h => gsN_len h))))) (fun _ _ _ _ _ => ats_nil) (fun _ _ _ _ _ => (ae_callB (c_all ⟨rfl, hu⟩) (by decide +kernel) M.f_all (aa_cons (AF.frozen (af_lc ⟨rfl, hu⟩ sc.nd (ai_seq (ae_sl (ae_var 1) ao_no (ao_some (ae_var 3)))) (blkOk_by (own := [("far", 2)]) (by kernel_rfl)) (by decide) (fun _ _ _ _ _ => (ag_name 2 sc.nd)) (fun _ _ _ _ _ => ats_nil) (fun _ _ _ _ _ => (ae_call D_is_free (hr.mono (by decide)) (aa_cons (ae_var 0) (aa_cons (ae_var 4) (aa_cons (ae_var 2) aa_nil))))))) aa_nil))))) aa_nil)))))
theorem sc_is_free_set : FnScope ["letters", "value"] ["letters", "value"] (defScope (top 25)) := ⟨rfl, rfl, rfl, by decide +kernel, rfl, by decide +kernel, by decide +kernel⟩
theorem ok_is_free_set {P : Program} {w : World} {K : PySem.W.Frag} {mg : Str → Option Value} {base : Heap} {f : Addr} {fd : FuncData} (M : Mg mg) (F : FunD K "is_free_set" "is_free_set" (defArgs (top 25)) (defBody (top 25)) (defScope (top 25)) [] [] f fd) (gf : mg "is_free_set" = some (.ref f)) (D_need_letters : DefOk P w K mg base 4 "need_letters" f_need_letters) (D_is_free_in : DefOk P w K mg base 3 "is_free_in" f_is_free_in) : DefOk P w K mg base 5 "is_free_set" f_is_free_set := by
  have sc := sc_is_free_set
  refine def_ok (P := P) (w := w) (K := K) (mg := mg) (base := base) (k := 4) F sc gf (fun _ _ _ _ _ _ us hl => match us, hl with | [_, _], _ => rfl) false b_is_free_set fun cdv A outer s H E hr => ?_
  have hu : (A.deeper (envOfC "is_free_set" (defScope (top 25)) s.heap.objs.size f cdv)).units + 64 < cLine := by have := hr.un; omega
  exact (ass_cons (as_do (ae_call D_need_letters (hr.mono (by decide)) (aa_cons (ae_var 0) aa_nil)))
  (ass_one (as_ret (ae_call D_is_free_in (hr.mono (by decide)) (aa_cons (ae_var 0) (aa_cons (ae_var 1) aa_nil))))))
theorem sc_joined_pile : FnScope ["letters", "one", "other"] ["letters", "one", "other"] (defScope (top 35)) := ⟨rfl, rfl, rfl, by decide +kernel, rfl, by decide +kernel, by decide +kernel⟩
theorem ok_joined_pile {P : Program} {w : World} {K : PySem.W.Frag} {mg : Str → Option Value} {base : Heap} {f : Addr} {fd : FuncData} (M : Mg mg) (F : FunD K "joined_pile" "joined_pile" (defArgs (top 35)) (defBody (top 35)) (defScope (top 35)) [] [] f fd) (gf : mg "joined_pile" = some (.ref f)) (D_need_letters : DefOk P w K mg base 4 "need_letters" f_need_letters) (D_need_pile : DefOk P w K mg base 5 "need_pile" f_need_pile) (D_least : DefOk P w K mg base 3 "least" f_least) : DefOk P w K mg base 6 "joined_pile" f_joined_pile := by
  have sc := sc_joined_pile
  refine def_ok (P := P) (w := w) (K := K) (mg := mg) (base := base) (k := 5) F sc gf (fun _ _ _ _ _ _ us hl => match us, hl with | [_, _, _], _ => rfl) false b_joined_pile fun cdv A outer s H E hr => ?_
  have hu : (A.deeper (envOfC "joined_pile" (defScope (top 35)) s.heap.objs.size f cdv)).units + 64 < cLine := by have := hr.un; omega
  exact (ass_cons (as_do (ae_call D_need_letters (hr.mono (by decide)) (aa_cons (ae_var 0) aa_nil)))
  (ass_cons (as_do (ae_call D_need_pile (hr.mono (by decide)) (aa_cons (ae_var 0) (aa_cons (ae_var 1) aa_nil))))
  (ass_cons (as_do (ae_call D_need_pile (hr.mono (by decide)) (aa_cons (ae_var 0) (aa_cons (ae_var 2) aa_nil))))
  (ass_one (as_ret (ae_call D_least (hr.mono (by decide)) (aa_cons (ae_var 0) (aa_cons (ae_op o_add (ae_var 1) (ae_var 2)) aa_nil))))))))
theorem sc_above_in : FnScope ["letters", "one", "other", "first", "second"] ["letters", "one", "other"] (defScope (top 84)) := ⟨rfl, rfl, rfl, by decide +kernel, rfl, by decide +kernel, by decide +kernel⟩
theorem ok_above_in {P : Program} {w : World} {K : PySem.W.Frag} {mg : Str → Option Value} {base : Heap} {f : Addr} {fd : FuncData} (M : Mg mg) (F : FunD K "above_in" "above_in" (defArgs (top 84)) (defBody (top 84)) (defScope (top 84)) [] [] f fd) (gf : mg "above_in" = some (.ref f)) (D_rests_in : DefOk P w K mg base 5 "rests_in" f_rests_in) (D_apart_in : DefOk P w K mg base 2 "apart_in" f_apart_in) (D_least : DefOk P w K mg base 3 "least" f_least) : DefOk P w K mg base 6 "above_in" f_above_in := by
  have sc := sc_above_in
  refine def_ok (P := P) (w := w) (K := K) (mg := mg) (base := base) (k := 5) F sc gf (fun _ _ _ _ _ _ us hl => match us, hl with | [_, _, _], _ => rfl) false b_above_in fun cdv A outer s H E hr => ?_
  have hu : (A.deeper (envOfC "above_in" (defScope (top 84)) s.heap.objs.size f cdv)).units + 64 < cLine := by have := hr.un; omega
  exact (ass_cons (as_asg (ae_call D_rests_in (hr.mono (by decide)) (aa_cons (ae_var 0) (aa_cons (ae_var 1) (aa_cons (ae_var 2) aa_nil)))) (ag_tup rfl (ags_cons (ag_name 3 sc.nd) (ags_cons (ag_name 4 sc.nd) ags_nil)) (gsC_len (gsC_len (fun _ _ _ h => gsN_len h)))))
  (ass_one (as_ret (ae_if (at_val (ae_call D_apart_in (hr.mono (by decide)) (aa_cons (ae_var 0) (aa_cons (ae_var 3) (aa_cons (ae_var 4) aa_nil))))) (ae_call D_least (hr.mono (by decide)) (aa_cons (ae_var 0) (aa_cons (ae_op o_add (ae_var 1) (ae_var 4)) aa_nil))) ae_non))))
theorem sc_above_all_in : FnScope ["letters", "piles", "found", "own"] ["letters", "piles"] (defScope (top 85)) := ⟨rfl, rfl, rfl, by decide +kernel, rfl, by decide +kernel, by decide +kernel⟩
theorem ok_above_all_in {P : Program} {w : World} {K : PySem.W.Frag} {mg : Str → Option Value} {base : Heap} {f : Addr} {fd : FuncData} (M : Mg mg) (F : FunD K "above_all_in" "above_all_in" (defArgs (top 85)) (defBody (top 85)) (defScope (top 85)) [] [] f fd) (gf : mg "above_all_in" = some (.ref f)) (D_above_in : DefOk P w K mg base 6 "above_in" f_above_in) : DefOk P w K mg base 7 "above_all_in" f_above_all_in := by
  have sc := sc_above_all_in
  refine def_ok (P := P) (w := w) (K := K) (mg := mg) (base := base) (k := 6) F sc gf (fun _ _ _ _ _ _ us hl => match us, hl with | [_, _], _ => rfl) false b_above_all_in fun cdv A outer s H E hr => ?_
  have hu : (A.deeper (envOfC "above_all_in" (defScope (top 85)) s.heap.objs.size f cdv)).units + 64 < cLine := by have := hr.un; omega
  exact (ass_cons (as_set 2 sc.nd (ae_ix (ae_var 1) ae_int))
  (ass_cons (as_for PassesOwn.never rfl (ai_seq (ae_sl (ae_var 1) (ao_some ae_int) ao_no)) (ag_name 3 sc.nd) (ass_cons (as_set 2 sc.nd (ae_call D_above_in (hr.mono (by decide)) (aa_cons (ae_var 0) (aa_cons (ae_var 2) (aa_cons (ae_var 3) aa_nil)))))
  (ass_one (as_if (at_cmp o_is (ae_var 2) ae_non) (ass_one (as_ret ae_non)) ass_nil))))
  (ass_one (as_ret (ae_var 2)))))
theorem sc_pile_above : FnScope ["letters", "piles"] ["letters", "piles"] (defScope (top 86)) := ⟨rfl, rfl, rfl, by decide +kernel, rfl, by decide +kernel, by decide +kernel⟩
theorem ok_pile_above {P : Program} {w : World} {K : PySem.W.Frag} {mg : Str → Option Value} {base : Heap} {f : Addr} {fd : FuncData} (M : Mg mg) (F : FunD K "pile_above" "pile_above" (defArgs (top 86)) (defBody (top 86)) (defScope (top 86)) [] [] f fd) (gf : mg "pile_above" = some (.ref f)) (D_need_all : DefOk P w K mg base 6 "need_all" f_need_all) (D_above_all_in : DefOk P w K mg base 7 "above_all_in" f_above_all_in) : DefOk P w K mg base 8 "pile_above" f_pile_above := by
  have sc := sc_pile_above
  refine def_ok (P := P) (w := w) (K := K) (mg := mg) (base := base) (k := 7) F sc gf (fun _ _ _ _ _ _ us hl => match us, hl with | [_, _], _ => rfl) false b_pile_above fun cdv A outer s H E hr => ?_
  have hu : (A.deeper (envOfC "pile_above" (defScope (top 86)) s.heap.objs.size f cdv)).units + 64 < cLine := by have := hr.un; omega
  exact (ass_cons (as_do (ae_call D_need_all (hr.mono (by decide)) (aa_cons (ae_var 0) (aa_cons (ae_var 1) aa_nil))))
  (ass_one (as_ret (ae_call D_above_all_in (hr.mono (by decide)) (aa_cons (ae_var 0) (aa_cons (ae_var 1) aa_nil))))))
theorem sc__law_above_right : FnScope ["cup", "letters", "some", "letter", "due", "own", "one", "other", "both", "shared", "mine", "parts"] ["cup"] (defScope (top 103)) := ⟨rfl, rfl, rfl, by decide +kernel, rfl, by decide +kernel, by decide +kernel⟩
theorem ok__law_above_right {P : Program} {w : World} {K : PySem.W.Frag} {mg : Str → Option Value} {base : Heap} {f : Addr} {fd : FuncData} (M : Mg mg) (F : FunD K "_law_above_right" "_law_above_right" (defArgs (top 103)) (defBody (top 103)) (defScope (top 103)) [] [] f fd) (gf : mg "_law_above_right" = some (.ref f)) (D__law_letters : DefOk P w K mg base 2 "_law_letters" f__law_letters) (D__law_roll : DefOk P w K mg base 1 "_law_roll" f__law_roll) (D_free_sets : DefOk P w K mg base 5 "free_sets" f_free_sets) (D__law_like : DefOk P w K mg base 7 "_law_like" f__law_like) (D_pile_above : DefOk P w K mg base 8 "pile_above" f_pile_above) (D__law_some : DefOk P w K mg base 2 "_law_some" f__law_some) (D_is_free_set : DefOk P w K mg base 5 "is_free_set" f_is_free_set) (D_above_bar : DefOk P w K mg base 7 "above_bar" f_above_bar) (D_common_beginning : DefOk P w K mg base 7 "common_beginning" f_common_beginning) (D_barred_behind : DefOk P w K mg base 5 "barred_behind" f_barred_behind) (D_joined_pile : DefOk P w K mg base 6 "joined_pile" f_joined_pile) (D_are_apart : DefOk P w K mg base 7 "are_apart" f_are_apart) (D_four_parts : DefOk P w K mg base 8 "four_parts" f_four_parts) (D_are_four_parts : DefOk P w K mg base 7 "are_four_parts" f_are_four_parts) : DefOk P w K mg base 9 "_law_above_right" f__law_above_right := by
  have sc := sc__law_above_right
  refine def_ok (P := P) (w := w) (K := K) (mg := mg) (base := base) (k := 8) F sc gf (fun _ _ _ _ _ _ us hl => match us, hl with | [_], _ => rfl) false b__law_above_right fun cdv A outer s H E hr => ?_
  have hu : (A.deeper (envOfC "_law_above_right" (defScope (top 103)) s.heap.objs.size f cdv)).units + 64 < cLine := by have := hr.un; omega
  exact (ass_cons (as_set 1 sc.nd (ae_call D__law_letters (hr.mono (by decide)) (aa_cons (ae_var 0) (aa_cons ae_int aa_nil))))
  (ass_cons (as_set 2 sc.nd (ae_callTy c_tuple (by decide +kernel) M.f_tuple (aa_cons (AF.frozen (af_lc ⟨rfl, hu⟩ sc.nd (ai_range1 (aa_cons (ae_ix (ae_var 1) ae_int) aa_nil) M.f_range) (blkOk_by (own := [("letter", 3)]) (by kernel_rfl)) (by decide) (fun _ _ _ _ _ => (ag_name 3 sc.nd)) (fun _ _ _ _ _ => (ats_one (at_cmp (o_eq ⟨rfl, hu⟩) (ae_call D__law_roll (hr.mono (by decide)) (aa_cons (ae_var 0) (aa_cons ae_int aa_nil))) ae_int))) (fun _ _ _ _ _ => (ae_var 3)))) aa_nil)))
  (ass_cons (as_set 4 sc.nd (ae_if (at_cmp (o_in ⟨rfl, hu⟩) (ae_var 2) (ae_call D_free_sets (hr.mono (by decide)) (aa_cons (ae_var 1) aa_nil))) (ae_var 2) ae_non))
  (ass_cons (as_if (at_w (aw_and (at_cmp (o_ne ⟨rfl, hu⟩) (ae_var 2) (ae_tup aa_nil)) (aw_and1 (at_not (at_val (ae_call D__law_like (hr.mono (by decide)) (aa_cons (ae_call D_pile_above (hr.mono (by decide)) (aa_cons (ae_var 1) (aa_cons (ae_callTy c_tuple (by decide +kernel) M.f_tuple (aa_cons (AF.frozen (af_lc ⟨rfl, hu⟩ sc.nd (ai_seq (ae_var 2)) (blkOk_by (own := [("own", 5)]) (by kernel_rfl)) (by decide) (fun _ _ _ _ _ => (ag_name 5 sc.nd)) (fun _ _ _ _ _ => ats_nil) (fun _ _ _ _ _ => (ae_tup (aa_cons (ae_var 5) aa_nil))))) aa_nil)) aa_nil))) (aa_cons (ae_var 4) aa_nil)))))))) (ass_one (as_ret ae_bl)) ass_nil)
  (ass_cons (as_unp rfl (aa_cons (ae_call D__law_some (hr.mono (by decide)) (aa_cons (ae_var 0) (aa_cons (AF.frozen (af_callTy l_list (by decide +kernel) M.f_list (ae_call D_free_sets (hr.mono (by decide)) (aa_cons (ae_var 1) aa_nil)))) aa_nil))) (aa_cons (ae_call D__law_some (hr.mono (by decide)) (aa_cons (ae_var 0) (aa_cons (AF.frozen (af_callTy l_list (by decide +kernel) M.f_list (ae_call D_free_sets (hr.mono (by decide)) (aa_cons (ae_var 1) aa_nil)))) aa_nil))) aa_nil)) (ags_cons (ag_name 6 sc.nd) (ags_cons (ag_name 7 sc.nd) ags_nil)) (gsC_len (gsC_len (fun _ _ _ h => gsN_len h))))
  (ass_cons (as_set 8 sc.nd (ae_callTy c_tuple (by decide +kernel) M.f_tuple (aa_cons (AF.frozen (af_callB (l_sorted ⟨rfl, hu⟩) (by decide +kernel) M.f_sorted (ae_op o_add (ae_var 6) (ae_callTy c_tuple (by decide +kernel) M.f_tuple (aa_cons (AF.frozen (af_lc ⟨rfl, hu⟩ sc.nd (ai_seq (ae_var 7)) (blkOk_by (own := [("own", 5)]) (by kernel_rfl)) (by decide) (fun _ _ _ _ _ => (ag_name 5 sc.nd)) (fun _ _ _ _ _ => (ats_one (at_cmp (o_nin ⟨rfl, hu⟩) (ae_var 5) (ae_var 6)))) (fun _ _ _ _ _ => (ae_var 5)))) aa_nil))))) aa_nil)))
  (ass_cons (as_if (at_not (at_val (ae_call D__law_like (hr.mono (by decide)) (aa_cons (AF.frozen (af_lst (aa_cons (ae_call D_pile_above (hr.mono (by decide)) (aa_cons (ae_var 1) (aa_cons (ae_tup (aa_cons (ae_var 6) (aa_cons (ae_var 7) aa_nil))) aa_nil))) (aa_cons (ae_cmp o_is (ae_call D_above_bar (hr.mono (by decide)) (aa_cons (ae_var 1) (aa_cons (ae_var 6) (aa_cons (ae_var 7) aa_nil)))) ae_non) aa_nil)))) (aa_cons (AF.frozen (af_lst (aa_cons (ae_if (at_val (ae_call D_is_free_set (hr.mono (by decide)) (aa_cons (ae_var 1) (aa_cons (ae_var 8) aa_nil)))) (ae_var 8) ae_non) (aa_cons (ae_call D_is_free_set (hr.mono (by decide)) (aa_cons (ae_var 1) (aa_cons (ae_var 8) aa_nil))) aa_nil)))) aa_nil))))) (ass_one (as_ret ae_bl)) ass_nil)
  (ass_cons (as_set 9 sc.nd (ae_callTy c_tuple (by decide +kernel) M.f_tuple (aa_cons (AF.frozen (af_lc ⟨rfl, hu⟩ sc.nd (ai_seq (ae_var 6)) (blkOk_by (own := [("own", 5)]) (by kernel_rfl)) (by decide) (fun _ _ _ _ _ => (ag_name 5 sc.nd)) (fun _ _ _ _ _ => (ats_one (at_cmp (o_in ⟨rfl, hu⟩) (ae_var 5) (ae_var 7)))) (fun _ _ _ _ _ => (ae_var 5)))) aa_nil)))
  (ass_cons (as_if (at_not (at_val (ae_call D__law_like (hr.mono (by decide)) (aa_cons (ae_call D_common_beginning (hr.mono (by decide)) (aa_cons (ae_var 1) (aa_cons (ae_tup (aa_cons (ae_var 6) (aa_cons (ae_var 7) aa_nil))) aa_nil))) (aa_cons (ae_var 9) aa_nil))))) (ass_one (as_ret ae_bl)) ass_nil)
  (ass_cons (as_if (at_not (at_val (ae_call D_is_free_set (hr.mono (by decide)) (aa_cons (ae_var 1) (aa_cons (ae_var 8) aa_nil))))) (ass_one (as_ret ae_bl)) ass_nil)
  (ass_cons (as_set 10 sc.nd (ae_callTy c_tuple (by decide +kernel) M.f_tuple (aa_cons (AF.frozen (af_lc ⟨rfl, hu⟩ sc.nd (ai_seq (ae_var 6)) (blkOk_by (own := [("own", 5)]) (by kernel_rfl)) (by decide) (fun _ _ _ _ _ => (ag_name 5 sc.nd)) (fun _ _ _ _ _ => (ats_one (at_cmp (o_nin ⟨rfl, hu⟩) (ae_var 5) (ae_var 7)))) (fun _ _ _ _ _ => (ae_var 5)))) aa_nil)))
  (ass_cons (as_if (at_not (at_val (ae_call D__law_like (hr.mono (by decide)) (aa_cons (AF.frozen (af_lst (aa_cons (ae_call D_are_apart (hr.mono (by decide)) (aa_cons (ae_var 1) (aa_cons (ae_var 10) (aa_cons (ae_var 7) aa_nil)))) (aa_cons (ae_call D_joined_pile (hr.mono (by decide)) (aa_cons (ae_var 1) (aa_cons (ae_var 10) (aa_cons (ae_var 7) aa_nil)))) (aa_cons (ae_cmp o_isN (ae_call D_barred_behind (hr.mono (by decide)) (aa_cons (ae_var 1) (aa_cons (ae_var 8) aa_nil))) ae_non) aa_nil))))) (aa_cons (AF.frozen (af_lst (aa_cons ae_bl (aa_cons (ae_var 8) (aa_cons ae_bl aa_nil))))) aa_nil))))) (ass_one (as_ret ae_bl)) ass_nil)
  (ass_cons (as_set 11 sc.nd (ae_call D_four_parts (hr.mono (by decide)) (aa_cons (ae_var 1) (aa_cons (ae_var 10) (aa_cons (ae_var 7) (aa_cons (ae_var 7) (aa_cons (ae_var 10) aa_nil)))))))
  (ass_one (as_ret (ae_and (ae_cmp o_is (ae_call D_are_four_parts (hr.mono (by decide)) (aa_cons (ae_var 1) (aa_cons (ae_var 10) (aa_cons (ae_var 7) (aa_cons (ae_var 7) (aa_cons (ae_var 10) (aa_cons (ae_var 11) aa_nil))))))) ae_bl) (ae_one (ae_cmp (o_eq ⟨rfl, hu⟩) (ae_var 11) (ae_tup (aa_cons (ae_tup aa_nil) (aa_cons (ae_var 10) (aa_cons (ae_var 7) (aa_cons (ae_tup aa_nil) aa_nil)))))))))))))))))))))))
theorem sc_kept_places : FnScope ["pile", "bits", "at", "letter"] ["pile", "bits"] (defScope (top 54)) := ⟨rfl, rfl, rfl, by decide +kernel, rfl, by decide +kernel, by decide +kernel⟩
theorem ok_kept_places {P : Program} {w : World} {K : PySem.W.Frag} {mg : Str → Option Value} {base : Heap} {f : Addr} {fd : FuncData} (M : Mg mg) (F : FunD K "kept_places" "kept_places" (defArgs (top 54)) (defBody (top 54)) (defScope (top 54)) [] [] f fd) (gf : mg "kept_places" = some (.ref f)) : DefOk P w K mg base 1 "kept_places" f_kept_places := by
  have sc := sc_kept_places
  refine def_ok (P := P) (w := w) (K := K) (mg := mg) (base := base) (k := 0) F sc gf (fun _ _ _ _ _ _ us hl => match us, hl with | [_, _], _ => rfl) false b_kept_places fun cdv A outer s H E hr => ?_
  have hu : (A.deeper (envOfC "kept_places" (defScope (top 54)) s.heap.objs.size f cdv)).units + 64 < cLine := by have := hr.un; omega
  exact (ass_one (as_ret (ae_callTy c_tuple (by decide +kernel) M.f_tuple (aa_cons (AF.frozen (af_lc ⟨rfl, hu⟩ sc.nd (ai_enum (ae_var 0) M.f_enumerate) (blkOk_by (own := [("at", 2), ("letter", 3)]) (by kernel_rfl)) (by decide) (fun _ _ _ _ _ => (ag_tup rfl (ags_cons (ag_name 2 sc.nd) (ags_cons (ag_name 3 sc.nd) ags_nil)) (gsC_len (gsC_len (fun _ _ _ h => gsN_len h))))) (fun _ _ _ _ _ => (ats_one (at_cmp (o_eq ⟨rfl, hu⟩) (ae_op o_band (ae_op o_shr (ae_var 1) (ae_var 2)) ae_int) ae_int))) (fun _ _ _ _ _ => (ae_var 3)))) aa_nil))))
theorem sc_next_bits : FnScope ["below", "bits", "found", "at", "own"] ["below", "bits"] (defScope (top 52)) := ⟨rfl, rfl, rfl, by decide +kernel, rfl, by decide +kernel, by decide +kernel⟩
theorem ok_next_bits {P : Program} {w : World} {K : PySem.W.Frag} {mg : Str → Option Value} {base : Heap} {f : Addr} {fd : FuncData} (M : Mg mg) (F : FunD K "next_bits" "next_bits" (defArgs (top 52)) (defBody (top 52)) (defScope (top 52)) [] [] f fd) (gf : mg "next_bits" = some (.ref f)) : DefOk P w K mg base 1 "next_bits" f_next_bits := by
  have sc := sc_next_bits
  refine def_ok (P := P) (w := w) (K := K) (mg := mg) (base := base) (k := 0) F sc gf (fun _ _ _ _ _ _ us hl => match us, hl with | [_, _], _ => rfl) false b_next_bits fun cdv A outer s H E hr => ?_
  have hu : (A.deeper (envOfC "next_bits" (defScope (top 52)) s.heap.objs.size f cdv)).units + 64 < cLine := by have := hr.un; omega
  exact (ass_cons (as_set 2 sc.nd (AF.cell (af_lst aa_nil)))
  (ass_cons (as_for PassesOwn.never rfl (ai_enum (ae_var 0) M.f_enumerate) (ag_tup rfl (ags_cons (ag_name 3 sc.nd) (ags_cons (ag_name 4 sc.nd) ags_nil)) (gsC_len (gsC_len (fun _ _ _ h => gsN_len h)))) (ass_one (as_if (at_w (aw_and (at_cmp (o_eq ⟨rfl, hu⟩) (ae_op o_band (ae_op o_shr (ae_var 1) (ae_var 3)) ae_int) ae_int) (aw_and1 (at_cmp (o_eq ⟨rfl, hu⟩) (ae_op o_band (ae_var 4) (ae_var 1)) (ae_var 4))))) (ass_one (as_do (ae_app (ae_var 2) (ae_op o_bor (ae_var 1) (ae_op o_shl ae_int (ae_var 3)))))) ass_nil)))
  (ass_one (as_ret (ae_var 2)))))
theorem sc_tied_below : FnScope ["letters", "pile", "found", "at", "letter", "spot"] ["letters", "pile"] (defScope (top 51)) := ⟨rfl, rfl, rfl, by decide +kernel, rfl, by decide +kernel, by decide +kernel⟩
theorem ok_tied_below {P : Program} {w : World} {K : PySem.W.Frag} {mg : Str → Option Value} {base : Heap} {f : Addr} {fd : FuncData} (M : Mg mg) (F : FunD K "tied_below" "tied_below" (defArgs (top 51)) (defBody (top 51)) (defScope (top 51)) [] [] f fd) (gf : mg "tied_below" = some (.ref f)) (D_is_free : DefOk P w K mg base 1 "is_free" f_is_free) : DefOk P w K mg base 2 "tied_below" f_tied_below := by
  have sc := sc_tied_below
  refine def_ok (P := P) (w := w) (K := K) (mg := mg) (base := base) (k := 1) F sc gf (fun _ _ _ _ _ _ us hl => match us, hl with | [_, _], _ => rfl) false b_tied_below fun cdv A outer s H E hr => ?_
  have hu : (A.deeper (envOfC "tied_below" (defScope (top 51)) s.heap.objs.size f cdv)).units + 64 < cLine := by have := hr.un; omega
  exact (ass_cons (as_set 2 sc.nd (AF.cell (af_lst aa_nil)))
  (ass_cons (as_for PassesOwn.never rfl (ai_enum (ae_var 1) M.f_enumerate) (ag_tup rfl (ags_cons (ag_name 3 sc.nd) (ags_cons (ag_name 4 sc.nd) ags_nil)) (gsC_len (gsC_len (fun _ _ _ h => gsN_len h)))) (ass_one (as_do (ae_app (ae_var 2) (ae_callB (c_sum ⟨rfl, hu⟩) (by decide +kernel) M.f_sum (aa_cons (AF.frozen (af_lc ⟨rfl, hu⟩ sc.nd (ai_range1 (aa_cons (ae_var 3) aa_nil) M.f_range) (blkOk_by (own := [("spot", 5)]) (by kernel_rfl)) (by decide) (fun _ _ _ _ _ => (ag_name 5 sc.nd)) (fun _ _ _ _ _ => (ats_one (at_not (at_val (ae_call D_is_free (hr.mono (by decide)) (aa_cons (ae_var 0) (aa_cons (ae_ix (ae_var 1) (ae_var 5)) (aa_cons (ae_var 4) aa_nil)))))))) (fun _ _ _ _ _ => (ae_op o_shl ae_int (ae_var 5))))) aa_nil))))))
  (ass_one (as_ret (ae_var 2)))))
theorem sc_levels_in : FnScope ["letters", "pile", "below", "found", "many", "turn", "wider", "bits", "own"] ["letters", "pile"] (defScope (top 53)) := ⟨rfl, rfl, rfl, by decide +kernel, rfl, by decide +kernel, by decide +kernel⟩
theorem ok_levels_in {P : Program} {w : World} {K : PySem.W.Frag} {mg : Str → Option Value} {base : Heap} {f : Addr} {fd : FuncData} (M : Mg mg) (F : FunD K "levels_in" "levels_in" (defArgs (top 53)) (defBody (top 53)) (defScope (top 53)) [] [] f fd) (gf : mg "levels_in" = some (.ref f)) (D_tied_below : DefOk P w K mg base 2 "tied_below" f_tied_below) (D_next_bits : DefOk P w K mg base 1 "next_bits" f_next_bits) : DefOk P w K mg base 3 "levels_in" f_levels_in := by
  obtain ⟨t_MANY_beginninglists, h_MANY_beginninglists⟩ := M.i_MANY_beginninglists
  have sc := sc_levels_in
  refine def_ok (P := P) (w := w) (K := K) (mg := mg) (base := base) (k := 2) F sc gf (fun _ _ _ _ _ _ us hl => match us, hl with | [_, _], _ => rfl) false b_levels_in fun cdv A outer s H E hr => ?_
  have hu : (A.deeper (envOfC "levels_in" (defScope (top 53)) s.heap.objs.size f cdv)).units + 64 < cLine := by have := hr.un; omega
  exact (ass_cons (as_par3 (i := 2) (j := 3) (l := 4) rfl sc.nd (aa_cons (ae_call D_tied_below (hr.mono (by decide)) (aa_cons (ae_var 0) (aa_cons (ae_var 1) aa_nil))) (aa_cons (AF.cell (af_lst (aa_cons (AF.frozen (af_lst (aa_cons ae_int aa_nil))) aa_nil))) (aa_cons ae_int aa_nil))))
  (ass_cons (as_for PassesOwn.never rfl (ai_range1 (aa_cons (ae_callB c_len (by decide +kernel) M.f_len (aa_cons (ae_var 1) aa_nil)) aa_nil) M.f_range) (ag_name 5 sc.nd) (ass_cons (as_set 6 sc.nd ae_dicK)
  (ass_cons (as_for PassesOwn.never rfl (ai_seq (ae_ix (ae_var 3) (ae_neg ae_int))) (ag_name 7 sc.nd) (ass_one (as_for PassesOwn.never rfl (ai_seq (ae_call D_next_bits (hr.mono (by decide)) (aa_cons (ae_var 2) (aa_cons (ae_var 7) aa_nil)))) (ag_name 8 sc.nd) (ass_one (as_put ⟨rfl, hu⟩ (ae_var 6) (ae_var 8) ae_bl)))))
  (ass_cons (as_set 4 sc.nd (ae_op o_add (ae_var 4) (ae_lenD M.f_len (ae_var 6))))
  (ass_cons (as_if (at_cmp (o_gt ⟨rfl, hu⟩) (ae_var 4) (ae_globI (by rfl) h_MANY_beginninglists)) (ass_one as_never) ass_nil)
  (ass_one (as_do (ae_app (ae_var 3) (AF.frozen (af_listD ⟨rfl, hu⟩ M.f_list (ae_var 6)))))))))))
  (ass_one (as_ret (ae_var 3)))))
theorem sc_beginnings_in : FnScope ["letters", "pile", "found", "level", "bits"] ["letters", "pile"] (defScope (top 55)) := ⟨rfl, rfl, rfl, by decide +kernel, rfl, by decide +kernel, by decide +kernel⟩
theorem ok_beginnings_in {P : Program} {w : World} {K : PySem.W.Frag} {mg : Str → Option Value} {base : Heap} {f : Addr} {fd : FuncData} (M : Mg mg) (F : FunD K "beginnings_in" "beginnings_in" (defArgs (top 55)) (defBody (top 55)) (defScope (top 55)) [] [] f fd) (gf : mg "beginnings_in" = some (.ref f)) (D_levels_in : DefOk P w K mg base 3 "levels_in" f_levels_in) (D_kept_places : DefOk P w K mg base 1 "kept_places" f_kept_places) : DefOk P w K mg base 4 "beginnings_in" f_beginnings_in := by
  have sc := sc_beginnings_in
  refine def_ok (P := P) (w := w) (K := K) (mg := mg) (base := base) (k := 3) F sc gf (fun _ _ _ _ _ _ us hl => match us, hl with | [_, _], _ => rfl) false b_beginnings_in fun cdv A outer s H E hr => ?_
  have hu : (A.deeper (envOfC "beginnings_in" (defScope (top 55)) s.heap.objs.size f cdv)).units + 64 < cLine := by have := hr.un; omega
  exact (ass_cons (as_set 2 sc.nd (AF.frozen (af_lst aa_nil)))
  (ass_cons (as_for PassesOwn.never rfl (ai_seq (ae_call D_levels_in (hr.mono (by decide)) (aa_cons (ae_var 0) (aa_cons (ae_var 1) aa_nil)))) (ag_name 3 sc.nd) (ass_one (as_set 2 sc.nd (ae_op o_add (ae_var 2) (AF.frozen (af_callB (l_sorted ⟨rfl, hu⟩) (by decide +kernel) M.f_sorted (AF.frozen (af_lc ⟨rfl, hu⟩ sc.nd (ai_seq (ae_var 3)) (blkOk_by (own := [("bits", 4)]) (by kernel_rfl)) (by decide) (fun _ _ _ _ _ => (ag_name 4 sc.nd)) (fun _ _ _ _ _ => ats_nil) (fun _ _ _ _ _ => (ae_call D_kept_places (hr.mono (by decide)) (aa_cons (ae_var 1) (aa_cons (ae_var 4) aa_nil))))))))))))
  (ass_one (as_ret (ae_var 2)))))
theorem sc_need_one : FnScope ["letters", "pile"] ["letters", "pile"] (defScope (top 56)) := ⟨rfl, rfl, rfl, by decide +kernel, rfl, by decide +kernel, by decide +kernel⟩
theorem ok_need_one {P : Program} {w : World} {K : PySem.W.Frag} {mg : Str → Option Value} {base : Heap} {f : Addr} {fd : FuncData} (M : Mg mg) (F : FunD K "need_one" "need_one" (defArgs (top 56)) (defBody (top 56)) (defScope (top 56)) [] [] f fd) (gf : mg "need_one" = some (.ref f)) (D_need_letters : DefOk P w K mg base 4 "need_letters" f_need_letters) (D_need_pile : DefOk P w K mg base 5 "need_pile" f_need_pile) : DefOk P w K mg base 6 "need_one" f_need_one := by
  have sc := sc_need_one
  refine def_ok (P := P) (w := w) (K := K) (mg := mg) (base := base) (k := 5) F sc gf (fun _ _ _ _ _ _ us hl => match us, hl with | [_, _], _ => rfl) false b_need_one fun cdv A outer s H E hr => ?_
  have hu : (A.deeper (envOfC "need_one" (defScope (top 56)) s.heap.objs.size f cdv)).units + 64 < cLine := by have := hr.un; omega
  exact (ass_cons (as_do (ae_call D_need_letters (hr.mono (by decide)) (aa_cons (ae_var 0) aa_nil)))
  (ass_one (as_do (ae_call D_need_pile (hr.mono (by decide)) (aa_cons (ae_var 0) (aa_cons (ae_var 1) aa_nil))))))
theorem sc_turned_round : FnScope ["letters", "pile"] ["letters", "pile"] (defScope (top 42)) := ⟨rfl, rfl, rfl, by decide +kernel, rfl, by decide +kernel, by decide +kernel⟩
theorem ok_turned_round {P : Program} {w : World} {K : PySem.W.Frag} {mg : Str → Option Value} {base : Heap} {f : Addr} {fd : FuncData} (M : Mg mg) (F : FunD K "turned_round" "turned_round" (defArgs (top 42)) (defBody (top 42)) (defScope (top 42)) [] [] f fd) (gf : mg "turned_round" = some (.ref f)) (D_least : DefOk P w K mg base 3 "least" f_least) : DefOk P w K mg base 4 "turned_round" f_turned_round := by
  have sc := sc_turned_round
  refine def_ok (P := P) (w := w) (K := K) (mg := mg) (base := base) (k := 3) F sc gf (fun _ _ _ _ _ _ us hl => match us, hl with | [_, _], _ => rfl) false b_turned_round fun cdv A outer s H E hr => ?_
  have hu : (A.deeper (envOfC "turned_round" (defScope (top 42)) s.heap.objs.size f cdv)).units + 64 < cLine := by have := hr.un; omega
  exact (ass_one (as_ret (ae_call D_least (hr.mono (by decide)) (aa_cons (ae_var 0) (aa_cons (ae_rev (ae_var 1)) aa_nil)))))
theorem sc_endings_of : FnScope ["letters", "pile", "found", "own", "long"] ["letters", "pile"] (defScope (top 58)) := ⟨rfl, rfl, rfl, by decide +kernel, rfl, by decide +kernel, by decide +kernel⟩
theorem ok_endings_of {P : Program} {w : World} {K : PySem.W.Frag} {mg : Str → Option Value} {base : Heap} {f : Addr} {fd : FuncData} (M : Mg mg) (F : FunD K "endings_of" "endings_of" (defArgs (top 58)) (defBody (top 58)) (defScope (top 58)) [] [] f fd) (gf : mg "endings_of" = some (.ref f)) (D_need_one : DefOk P w K mg base 6 "need_one" f_need_one) (D_beginnings_in : DefOk P w K mg base 4 "beginnings_in" f_beginnings_in) (D_turned_round : DefOk P w K mg base 4 "turned_round" f_turned_round) : DefOk P w K mg base 7 "endings_of" f_endings_of := by
  have sc := sc_endings_of
  refine def_ok (P := P) (w := w) (K := K) (mg := mg) (base := base) (k := 6) F sc gf (fun _ _ _ _ _ _ us hl => match us, hl with | [_, _], _ => rfl) false b_endings_of fun cdv A outer s H E hr => ?_
  have hu : (A.deeper (envOfC "endings_of" (defScope (top 58)) s.heap.objs.size f cdv)).units + 64 < cLine := by have := hr.un; omega
  exact (ass_cons (as_do (ae_call D_need_one (hr.mono (by decide)) (aa_cons (ae_var 0) (aa_cons (ae_var 1) aa_nil))))
  (ass_cons (as_setLc (i := 2) (m := mFr c_endings_of_1) ⟨rfl, hu⟩ sc.nd (ai_seq (ae_call D_beginnings_in (hr.mono (by decide)) (aa_cons (ae_var 0) (aa_cons (ae_call D_turned_round (hr.mono (by decide)) (aa_cons (ae_var 0) (aa_cons (ae_var 1) aa_nil))) aa_nil)))) (blkOk_by (own := [("own", 3)]) (by kernel_rfl)) (by decide) (fun _ _ _ _ _ => (ag_name 3 sc.nd)) (fun _ _ _ _ _ => ats_nil) (fun _ _ _ _ _ => (ae_call D_turned_round (hr.mono (by decide)) (aa_cons (ae_var 0) (aa_cons (ae_var 3) aa_nil)))) (fun q => fr_te q))
  (ass_one (as_ret (ae_callTy c_tuple (by decide +kernel) M.f_tuple (aa_cons (AF.frozen (af_lc ⟨rfl, hu⟩ sc.nd (ai_seq (AF.frozen (af_callB (l_sorted ⟨rfl, hu⟩) (by decide +kernel) M.f_sorted (AF.frozen (af_lc ⟨rfl, hu⟩ sc.nd (ai_seq (ae_var 2)) (blkOk_by (own := [("own", 3)]) (by kernel_rfl)) (by decide) (fun _ _ _ _ _ => (ag_name 3 sc.nd)) (fun _ _ _ _ _ => ats_nil) (fun _ _ _ _ _ => (ae_tup (aa_cons (ae_callB c_len (by decide +kernel) M.f_len (aa_cons (ae_var 3) aa_nil)) (aa_cons (ae_var 3) aa_nil))))))))) (blkOk_by (own := [("long", 4), ("own", 3)]) (by kernel_rfl)) (by decide) (fun _ _ _ _ _ => (ag_tup rfl (ags_cons (ag_name 4 sc.nd) (ags_cons (ag_name 3 sc.nd) ags_nil)) (gsC_len (gsC_len (fun _ _ _ h => gsN_len h))))) (fun _ _ _ _ _ => ats_nil) (fun _ _ _ _ _ => (ae_var 3)))) aa_nil))))))
theorem sc_is_beginning : FnScope ["letters", "one", "other"] ["letters", "one", "other"] (defScope (top 45)) := ⟨rfl, rfl, rfl, by decide +kernel, rfl, by decide +kernel, by decide +kernel⟩
theorem ok_is_beginning {P : Program} {w : World} {K : PySem.W.Frag} {mg : Str → Option Value} {base : Heap} {f : Addr} {fd : FuncData} (M : Mg mg) (F : FunD K "is_beginning" "is_beginning" (defArgs (top 45)) (defBody (top 45)) (defScope (top 45)) [] [] f fd) (gf : mg "is_beginning" = some (.ref f)) (D_need_two : DefOk P w K mg base 6 "need_two" f_need_two) (D_behind_in : DefOk P w K mg base 4 "behind_in" f_behind_in) : DefOk P w K mg base 7 "is_beginning" f_is_beginning := by
  have sc := sc_is_beginning
  refine def_ok (P := P) (w := w) (K := K) (mg := mg) (base := base) (k := 6) F sc gf (fun _ _ _ _ _ _ us hl => match us, hl with | [_, _, _], _ => rfl) false b_is_beginning fun cdv A outer s H E hr => ?_
  have hu : (A.deeper (envOfC "is_beginning" (defScope (top 45)) s.heap.objs.size f cdv)).units + 64 < cLine := by have := hr.un; omega
  exact (ass_cons (as_do (ae_call D_need_two (hr.mono (by decide)) (aa_cons (ae_var 0) (aa_cons (ae_var 1) (aa_cons (ae_var 2) aa_nil)))))
  (ass_one (as_ret (ae_cmp o_isN (ae_call D_behind_in (hr.mono (by decide)) (aa_cons (ae_var 0) (aa_cons (ae_var 1) (aa_cons (ae_var 2) aa_nil)))) ae_non))))
theorem sc_ahead_in : FnScope ["letters", "one", "other", "found"] ["letters", "one", "other"] (defScope (top 43)) := ⟨rfl, rfl, rfl, by decide +kernel, rfl, by decide +kernel, by decide +kernel⟩
theorem ok_ahead_in {P : Program} {w : World} {K : PySem.W.Frag} {mg : Str → Option Value} {base : Heap} {f : Addr} {fd : FuncData} (M : Mg mg) (F : FunD K "ahead_in" "ahead_in" (defArgs (top 43)) (defBody (top 43)) (defScope (top 43)) [] [] f fd) (gf : mg "ahead_in" = some (.ref f)) (D_behind_in : DefOk P w K mg base 4 "behind_in" f_behind_in) (D_turned_round : DefOk P w K mg base 4 "turned_round" f_turned_round) : DefOk P w K mg base 5 "ahead_in" f_ahead_in := by
  have sc := sc_ahead_in
  refine def_ok (P := P) (w := w) (K := K) (mg := mg) (base := base) (k := 4) F sc gf (fun _ _ _ _ _ _ us hl => match us, hl with | [_, _, _], _ => rfl) false b_ahead_in fun cdv A outer s H E hr => ?_
  have hu : (A.deeper (envOfC "ahead_in" (defScope (top 43)) s.heap.objs.size f cdv)).units + 64 < cLine := by have := hr.un; omega
  exact (ass_cons (as_set 3 sc.nd (ae_call D_behind_in (hr.mono (by decide)) (aa_cons (ae_var 0) (aa_cons (ae_rev (ae_var 1)) (aa_cons (ae_rev (ae_var 2)) aa_nil)))))
  (ass_one (as_ret (ae_if (at_cmp o_isN (ae_var 3) ae_non) (ae_call D_turned_round (hr.mono (by decide)) (aa_cons (ae_var 0) (aa_cons (ae_var 3) aa_nil))) ae_non))))
theorem sc_is_ending : FnScope ["letters", "one", "other"] ["letters", "one", "other"] (defScope (top 46)) := ⟨rfl, rfl, rfl, by decide +kernel, rfl, by decide +kernel, by decide +kernel⟩
theorem ok_is_ending {P : Program} {w : World} {K : PySem.W.Frag} {mg : Str → Option Value} {base : Heap} {f : Addr} {fd : FuncData} (M : Mg mg) (F : FunD K "is_ending" "is_ending" (defArgs (top 46)) (defBody (top 46)) (defScope (top 46)) [] [] f fd) (gf : mg "is_ending" = some (.ref f)) (D_need_two : DefOk P w K mg base 6 "need_two" f_need_two) (D_ahead_in : DefOk P w K mg base 5 "ahead_in" f_ahead_in) : DefOk P w K mg base 7 "is_ending" f_is_ending := by
  have sc := sc_is_ending
  refine def_ok (P := P) (w := w) (K := K) (mg := mg) (base := base) (k := 6) F sc gf (fun _ _ _ _ _ _ us hl => match us, hl with | [_, _, _], _ => rfl) false b_is_ending fun cdv A outer s H E hr => ?_
  have hu : (A.deeper (envOfC "is_ending" (defScope (top 46)) s.heap.objs.size f cdv)).units + 64 < cLine := by have := hr.un; omega
  exact (ass_cons (as_do (ae_call D_need_two (hr.mono (by decide)) (aa_cons (ae_var 0) (aa_cons (ae_var 1) (aa_cons (ae_var 2) aa_nil)))))
  (ass_one (as_ret (ae_cmp o_isN (ae_call D_ahead_in (hr.mono (by decide)) (aa_cons (ae_var 0) (aa_cons (ae_var 1) (aa_cons (ae_var 2) aa_nil)))) ae_non))))
theorem sc_tops_in : FnScope ["letters", "pile", "found", "at", "letter", "far"] ["letters", "pile"] (defScope (top 90)) := ⟨rfl, rfl, rfl, by decide +kernel, rfl, by decide +kernel, by decide +kernel⟩
theorem ok_tops_in {P : Program} {w : World} {K : PySem.W.Frag} {mg : Str → Option Value} {base : Heap} {f : Addr} {fd : FuncData} (M : Mg mg) (F : FunD K "tops_in" "tops_in" (defArgs (top 90)) (defBody (top 90)) (defScope (top 90)) [] [] f fd) (gf : mg "tops_in" = some (.ref f)) (D_is_free : DefOk P w K mg base 1 "is_free" f_is_free) : DefOk P w K mg base 2 "tops_in" f_tops_in := by
  have sc := sc_tops_in
  refine def_ok (P := P) (w := w) (K := K) (mg := mg) (base := base) (k := 1) F sc gf (fun _ _ _ _ _ _ us hl => match us, hl with | [_, _], _ => rfl) false b_tops_in fun cdv A outer s H E hr => ?_
  have hu : (A.deeper (envOfC "tops_in" (defScope (top 90)) s.heap.objs.size f cdv)).units + 64 < cLine := by have := hr.un; omega
  exact (ass_cons (as_set 2 sc.nd (AF.cell (af_lst aa_nil)))
  (ass_cons (as_for PassesOwn.never rfl (ai_enum (ae_var 1) M.f_enumerate) (ag_tup rfl (ags_cons (ag_name 3 sc.nd) (ags_cons (ag_name 4 sc.nd) ags_nil)) (gsC_len (gsC_len (fun _ _ _ h => gsN_len h)))) (ass_one (as_if (at_val (ae_callB (c_all ⟨rfl, hu⟩) (by decide +kernel) M.f_all (aa_cons (AF.frozen (af_lc ⟨rfl, hu⟩ sc.nd (ai_seq (ae_sl (ae_var 1) (ao_some (ae_op o_add (ae_var 3) ae_int)) ao_no)) (blkOk_by (own := [("far", 5)]) (by kernel_rfl)) (by decide) (fun _ _ _ _ _ => (ag_name 5 sc.nd)) (fun _ _ _ _ _ => ats_nil) (fun _ _ _ _ _ => (ae_call D_is_free (hr.mono (by decide)) (aa_cons (ae_var 0) (aa_cons (ae_var 4) (aa_cons (ae_var 5) aa_nil))))))) aa_nil))) (ass_one (as_do (ae_app (ae_var 2) (ae_var 4)))) ass_nil)))
  (ass_one (as_ret (ae_var 2)))))
theorem sc_is_pointed : FnScope ["letters", "pile"] ["letters", "pile"] (defScope (top 92)) := ⟨rfl, rfl, rfl, by decide +kernel, rfl, by decide +kernel, by decide +kernel⟩
theorem ok_is_pointed {P : Program} {w : World} {K : PySem.W.Frag} {mg : Str → Option Value} {base : Heap} {f : Addr} {fd : FuncData} (M : Mg mg) (F : FunD K "is_pointed" "is_pointed" (defArgs (top 92)) (defBody (top 92)) (defScope (top 92)) [] [] f fd) (gf : mg "is_pointed" = some (.ref f)) (D_need_letters : DefOk P w K mg base 4 "need_letters" f_need_letters) (D_need_pile : DefOk P w K mg base 5 "need_pile" f_need_pile) (D_tops_in : DefOk P w K mg base 2 "tops_in" f_tops_in) : DefOk P w K mg base 6 "is_pointed" f_is_pointed := by
  have sc := sc_is_pointed
  refine def_ok (P := P) (w := w) (K := K) (mg := mg) (base := base) (k := 5) F sc gf (fun _ _ _ _ _ _ us hl => match us, hl with | [_, _], _ => rfl) false b_is_pointed fun cdv A outer s H E hr => ?_
  have hu : (A.deeper (envOfC "is_pointed" (defScope (top 92)) s.heap.objs.size f cdv)).units + 64 < cLine := by have := hr.un; omega
  exact (ass_cons (as_do (ae_call D_need_letters (hr.mono (by decide)) (aa_cons (ae_var 0) aa_nil)))
  (ass_cons (as_do (ae_call D_need_pile (hr.mono (by decide)) (aa_cons (ae_var 0) (aa_cons (ae_var 1) aa_nil))))
  (ass_one (as_ret (ae_cmp (o_eq ⟨rfl, hu⟩) (ae_callB c_len (by decide +kernel) M.f_len (aa_cons (ae_call D_tops_in (hr.mono (by decide)) (aa_cons (ae_var 0) (aa_cons (ae_var 1) aa_nil))) aa_nil)) ae_int)))))
theorem sc_left_ahead : FnScope ["letters", "one", "other", "found"] ["letters", "one", "other"] (defScope (top 48)) := ⟨rfl, rfl, rfl, by decide +kernel, rfl, by decide +kernel, by decide +kernel⟩
theorem ok_left_ahead {P : Program} {w : World} {K : PySem.W.Frag} {mg : Str → Option Value} {base : Heap} {f : Addr} {fd : FuncData} (M : Mg mg) (F : FunD K "left_ahead" "left_ahead" (defArgs (top 48)) (defBody (top 48)) (defScope (top 48)) [] [] f fd) (gf : mg "left_ahead" = some (.ref f)) (D_need_two : DefOk P w K mg base 6 "need_two" f_need_two) (D_ahead_in : DefOk P w K mg base 5 "ahead_in" f_ahead_in) : DefOk P w K mg base 7 "left_ahead" f_left_ahead := by
  have sc := sc_left_ahead
  refine def_ok (P := P) (w := w) (K := K) (mg := mg) (base := base) (k := 6) F sc gf (fun _ _ _ _ _ _ us hl => match us, hl with | [_, _, _], _ => rfl) false b_left_ahead fun cdv A outer s H E hr => ?_
  have hu : (A.deeper (envOfC "left_ahead" (defScope (top 48)) s.heap.objs.size f cdv)).units + 64 < cLine := by have := hr.un; omega
  exact (ass_cons (as_do (ae_call D_need_two (hr.mono (by decide)) (aa_cons (ae_var 0) (aa_cons (ae_var 1) (aa_cons (ae_var 2) aa_nil)))))
  (ass_cons (as_set 3 sc.nd (ae_call D_ahead_in (hr.mono (by decide)) (aa_cons (ae_var 0) (aa_cons (ae_var 1) (aa_cons (ae_var 2) aa_nil)))))
  (ass_cons (as_if (at_cmp o_is (ae_var 3) ae_non) (ass_one as_never) ass_nil)
  (ass_one (as_ret (ae_var 3))))))
theorem sc_left_behind : FnScope ["letters", "one", "other", "found"] ["letters", "one", "other"] (defScope (top 47)) := ⟨rfl, rfl, rfl, by decide +kernel, rfl, by decide +kernel, by decide +kernel⟩
theorem ok_left_behind {P : Program} {w : World} {K : PySem.W.Frag} {mg : Str → Option Value} {base : Heap} {f : Addr} {fd : FuncData} (M : Mg mg) (F : FunD K "left_behind" "left_behind" (defArgs (top 47)) (defBody (top 47)) (defScope (top 47)) [] [] f fd) (gf : mg "left_behind" = some (.ref f)) (D_need_two : DefOk P w K mg base 6 "need_two" f_need_two) (D_behind_in : DefOk P w K mg base 4 "behind_in" f_behind_in) : DefOk P w K mg base 7 "left_behind" f_left_behind := by
  have sc := sc_left_behind
  refine def_ok (P := P) (w := w) (K := K) (mg := mg) (base := base) (k := 6) F sc gf (fun _ _ _ _ _ _ us hl => match us, hl with | [_, _, _], _ => rfl) false b_left_behind fun cdv A outer s H E hr => ?_
  have hu : (A.deeper (envOfC "left_behind" (defScope (top 47)) s.heap.objs.size f cdv)).units + 64 < cLine := by have := hr.un; omega
  exact (ass_cons (as_do (ae_call D_need_two (hr.mono (by decide)) (aa_cons (ae_var 0) (aa_cons (ae_var 1) (aa_cons (ae_var 2) aa_nil)))))
  (ass_cons (as_set 3 sc.nd (ae_call D_behind_in (hr.mono (by decide)) (aa_cons (ae_var 0) (aa_cons (ae_var 1) (aa_cons (ae_var 2) aa_nil)))))
  (ass_cons (as_if (at_cmp o_is (ae_var 3) ae_non) (ass_one as_never) ass_nil)
  (ass_one (as_ret (ae_var 3))))))
theorem sc_sign_in : FnScope ["letters", "some", "sizes", "own", "size"] ["letters", "some"] (defScope (top 75)) := ⟨rfl, rfl, rfl, by decide +kernel, rfl, by decide +kernel, by decide +kernel⟩
theorem ok_sign_in {P : Program} {w : World} {K : PySem.W.Frag} {mg : Str → Option Value} {base : Heap} {f : Addr} {fd : FuncData} (M : Mg mg) (F : FunD K "sign_in" "sign_in" (defArgs (top 75)) (defBody (top 75)) (defScope (top 75)) [] [] f fd) (gf : mg "sign_in" = some (.ref f)) (D_sets_in : DefOk P w K mg base 2 "sets_in" f_sets_in) : DefOk P w K mg base 3 "sign_in" f_sign_in := by
  have sc := sc_sign_in
  refine def_ok (P := P) (w := w) (K := K) (mg := mg) (base := base) (k := 2) F sc gf (fun _ _ _ _ _ _ us hl => match us, hl with | [_, _], _ => rfl) false b_sign_in fun cdv A outer s H E hr => ?_
  have hu : (A.deeper (envOfC "sign_in" (defScope (top 75)) s.heap.objs.size f cdv)).units + 64 < cLine := by have := hr.un; omega
  exact (ass_cons (as_set 2 sc.nd (AF.frozen (af_lc ⟨rfl, hu⟩ sc.nd (ai_seq (ae_call D_sets_in (hr.mono (by decide)) (aa_cons (ae_var 0) (aa_cons (ae_var 1) aa_nil)))) (blkOk_by (own := [("own", 3)]) (by kernel_rfl)) (by decide) (fun _ _ _ _ _ => (ag_name 3 sc.nd)) (fun _ _ _ _ _ => ats_nil) (fun _ _ _ _ _ => (ae_callB c_len (by decide +kernel) M.f_len (aa_cons (ae_var 3) aa_nil))))))
  (ass_one (as_ret (ae_callTy c_tuple (by decide +kernel) M.f_tuple (aa_cons (AF.frozen (af_lc ⟨rfl, hu⟩ sc.nd (ai_range1 (aa_cons (ae_op o_add (ae_callB (c_maxL ⟨rfl, hu⟩) (by decide +kernel) M.f_max (aa_cons (ae_var 2) aa_nil)) ae_int) aa_nil) M.f_range) (blkOk_by (own := [("size", 4)]) (by kernel_rfl)) (by decide) (fun _ _ _ _ _ => (ag_name 4 sc.nd)) (fun _ _ _ _ _ => ats_nil) (fun _ _ _ _ _ => (ae_op o_mul (ae_count (ae_var 2) (ae_var 4)) (ae_if (at_cmp (o_eq ⟨rfl, hu⟩) (ae_op o_mod (ae_callTy c_int (by decide +kernel) M.f_int (aa_cons (ae_var 4) aa_nil)) ae_int) ae_int) ae_int (ae_neg ae_int)))))) aa_nil)))))
theorem sc_counts_in : FnScope ["letters", "most", "signs", "found", "length", "whole", "at"] ["letters", "most"] (defScope (top 79)) := ⟨rfl, rfl, rfl, by decide +kernel, rfl, by decide +kernel, by decide +kernel⟩
theorem ok_counts_in {P : Program} {w : World} {K : PySem.W.Frag} {mg : Str → Option Value} {base : Heap} {f : Addr} {fd : FuncData} (M : Mg mg) (F : FunD K "counts_in" "counts_in" (defArgs (top 79)) (defBody (top 79)) (defScope (top 79)) [] [] f fd) (gf : mg "counts_in" = some (.ref f)) (D_sign_in : DefOk P w K mg base 3 "sign_in" f_sign_in) (D_every_letter : DefOk P w K mg base 1 "every_letter" f_every_letter) : DefOk P w K mg base 4 "counts_in" f_counts_in := by
  have sc := sc_counts_in
  refine def_ok (P := P) (w := w) (K := K) (mg := mg) (base := base) (k := 3) F sc gf (fun _ _ _ _ _ _ us hl => match us, hl with | [_, _], _ => rfl) false b_counts_in fun cdv A outer s H E hr => ?_
  have hu : (A.deeper (envOfC "counts_in" (defScope (top 79)) s.heap.objs.size f cdv)).units + 64 < cLine := by have := hr.un; omega
  exact (ass_cons (as_par (i := 2) (j := 3) rfl sc.nd (aa_cons (ae_call D_sign_in (hr.mono (by decide)) (aa_cons (ae_var 0) (aa_cons (ae_call D_every_letter (hr.mono (by decide)) (aa_cons (ae_var 0) aa_nil)) aa_nil))) (aa_cons (AF.cell (af_lst aa_nil)) aa_nil)))
  (ass_cons (as_for PassesOwn.never rfl (ai_range1 (aa_cons (ae_op o_add (ae_var 1) ae_int) aa_nil) M.f_range) (ag_name 4 sc.nd) (ass_cons (as_set 5 sc.nd (ae_if (at_cmp (o_eq ⟨rfl, hu⟩) (ae_var 4) ae_int) ae_int ae_int))
  (ass_cons (as_for PassesOwn.never rfl (ai_range2 (aa_cons ae_int (aa_cons (ae_op o_add (ae_callB (c_min2 ⟨rfl, hu⟩) (by decide +kernel) M.f_min (aa_cons (ae_var 4) (aa_cons (ae_op o_sub (ae_callB c_len (by decide +kernel) M.f_len (aa_cons (ae_var 2) aa_nil)) ae_int) aa_nil))) ae_int) aa_nil)) M.f_range) (ag_name 6 sc.nd) (ass_one (as_set 5 sc.nd (ae_op o_sub (ae_var 5) (ae_op o_mul (ae_ix (ae_var 2) (ae_var 6)) (ae_ix (ae_var 3) (ae_op o_sub (ae_var 4) (ae_var 6))))))))
  (ass_one (as_do (ae_app (ae_var 3) (ae_var 5)))))))
  (ass_one (as_ret (ae_var 3)))))
theorem sc_need_whole : FnScope ["value", "low", "high"] ["value", "low", "high"] (defScope (top 11)) := ⟨rfl, rfl, rfl, by decide +kernel, rfl, by decide +kernel, by decide +kernel⟩
theorem ok_need_whole {P : Program} {w : World} {K : PySem.W.Frag} {mg : Str → Option Value} {base : Heap} {f : Addr} {fd : FuncData} (M : Mg mg) (F : FunD K "need_whole" "need_whole" (defArgs (top 11)) (defBody (top 11)) (defScope (top 11)) [] [] f fd) (gf : mg "need_whole" = some (.ref f)) (D_is_whole : DefOk P w K mg base 1 "is_whole" f_is_whole) : DefOk P w K mg base 2 "need_whole" f_need_whole := by
  have sc := sc_need_whole
  refine def_ok (P := P) (w := w) (K := K) (mg := mg) (base := base) (k := 1) F sc gf (fun _ _ _ _ _ _ us hl => match us, hl with | [_, _, _], _ => rfl) false b_need_whole fun cdv A outer s H E hr => ?_
  have hu : (A.deeper (envOfC "need_whole" (defScope (top 11)) s.heap.objs.size f cdv)).units + 64 < cLine := by have := hr.un; omega
  exact (ass_one (as_if (at_not (at_val (ae_call D_is_whole (hr.mono (by decide)) (aa_cons (ae_var 0) (aa_cons (ae_var 1) (aa_cons (ae_var 2) aa_nil)))))) (ass_one as_never) ass_nil))
theorem sc_pile_counts : FnScope ["letters", "most"] ["letters", "most"] (defScope (top 80)) := ⟨rfl, rfl, rfl, by decide +kernel, rfl, by decide +kernel, by decide +kernel⟩
theorem ok_pile_counts {P : Program} {w : World} {K : PySem.W.Frag} {mg : Str → Option Value} {base : Heap} {f : Addr} {fd : FuncData} (M : Mg mg) (F : FunD K "pile_counts" "pile_counts" (defArgs (top 80)) (defBody (top 80)) (defScope (top 80)) [] [] f fd) (gf : mg "pile_counts" = some (.ref f)) (D_need_letters : DefOk P w K mg base 4 "need_letters" f_need_letters) (D_need_whole : DefOk P w K mg base 2 "need_whole" f_need_whole) (D_counts_in : DefOk P w K mg base 4 "counts_in" f_counts_in) : DefOk P w K mg base 5 "pile_counts" f_pile_counts := by
  obtain ⟨t_LONG_pilecounts, h_LONG_pilecounts⟩ := M.i_LONG_pilecounts
  have sc := sc_pile_counts
  refine def_ok (P := P) (w := w) (K := K) (mg := mg) (base := base) (k := 4) F sc gf (fun _ _ _ _ _ _ us hl => match us, hl with | [_, _], _ => rfl) false b_pile_counts fun cdv A outer s H E hr => ?_
  have hu : (A.deeper (envOfC "pile_counts" (defScope (top 80)) s.heap.objs.size f cdv)).units + 64 < cLine := by have := hr.un; omega
  exact (ass_cons (as_do (ae_call D_need_letters (hr.mono (by decide)) (aa_cons (ae_var 0) aa_nil)))
  (ass_cons (as_do (ae_call D_need_whole (hr.mono (by decide)) (aa_cons (ae_var 1) (aa_cons ae_int (aa_cons (ae_globI (by rfl) h_LONG_pilecounts) aa_nil)))))
  (ass_one (as_ret (ae_callTy c_tuple (by decide +kernel) M.f_tuple (aa_cons (ae_call D_counts_in (hr.mono (by decide)) (aa_cons (ae_var 0) (aa_cons (ae_var 1) aa_nil))) aa_nil))))))
theorem sc_piles_of_length : FnScope ["letters", "length", "line", "turn", "longer", "pile", "barred", "letter"] ["letters", "length"] (defScope (top 81)) := ⟨rfl, rfl, rfl, by decide +kernel, rfl, by decide +kernel, by decide +kernel⟩
theorem ok_piles_of_length {P : Program} {w : World} {K : PySem.W.Frag} {mg : Str → Option Value} {base : Heap} {f : Addr} {fd : FuncData} (M : Mg mg) (F : FunD K "piles_of_length" "piles_of_length" (defArgs (top 81)) (defBody (top 81)) (defScope (top 81)) [] [] f fd) (gf : mg "piles_of_length" = some (.ref f)) (D_need_letters : DefOk P w K mg base 4 "need_letters" f_need_letters) (D_need_whole : DefOk P w K mg base 2 "need_whole" f_need_whole) (D_counts_in : DefOk P w K mg base 4 "counts_in" f_counts_in) (D_step_in : DefOk P w K mg base 2 "step_in" f_step_in) : DefOk P w K mg base 5 "piles_of_length" f_piles_of_length := by
  obtain ⟨t_LONG_pilecounts, h_LONG_pilecounts⟩ := M.i_LONG_pilecounts
  obtain ⟨t_MANY_pilecounts, h_MANY_pilecounts⟩ := M.i_MANY_pilecounts
  have sc := sc_piles_of_length
  refine def_ok (P := P) (w := w) (K := K) (mg := mg) (base := base) (k := 4) F sc gf (fun _ _ _ _ _ _ us hl => match us, hl with | [_, _], _ => rfl) false b_piles_of_length fun cdv A outer s H E hr => ?_
  have hu : (A.deeper (envOfC "piles_of_length" (defScope (top 81)) s.heap.objs.size f cdv)).units + 64 < cLine := by have := hr.un; omega
  exact (ass_cons (as_do (ae_call D_need_letters (hr.mono (by decide)) (aa_cons (ae_var 0) aa_nil)))
  (ass_cons (as_do (ae_call D_need_whole (hr.mono (by decide)) (aa_cons (ae_var 1) (aa_cons ae_int (aa_cons (ae_globI (by rfl) h_LONG_pilecounts) aa_nil)))))
  (ass_cons (as_if (at_cmp (o_gt ⟨rfl, hu⟩) (ae_ix (ae_call D_counts_in (hr.mono (by decide)) (aa_cons (ae_var 0) (aa_cons (ae_var 1) aa_nil))) (ae_neg ae_int)) (ae_globI (by rfl) h_MANY_pilecounts)) (ass_one as_never) ass_nil)
  (ass_cons (as_set 2 sc.nd (AF.frozen (af_lst (aa_cons (ae_tup (aa_cons (ae_tup aa_nil) (aa_cons (ae_tup aa_nil) aa_nil))) aa_nil))))
  (ass_cons (as_for PassesOwn.never rfl (ai_range1 (aa_cons (ae_var 1) aa_nil) M.f_range) (ag_name 3 sc.nd) (ass_cons (as_set 4 sc.nd (AF.cell (af_lst aa_nil)))
  (ass_cons (as_for PassesOwn.never rfl (ai_seq (ae_var 2)) (ag_tup rfl (ags_cons (ag_name 5 sc.nd) (ags_cons (ag_name 6 sc.nd) ags_nil)) (gsC_len (gsC_len (fun _ _ _ h => gsN_len h)))) (ass_one (as_for PassesOwn.never rfl (ai_range1 (aa_cons (ae_ix (ae_var 0) ae_int) aa_nil) M.f_range) (ag_name 7 sc.nd) (ass_one (as_if (at_cmp (o_nin ⟨rfl, hu⟩) (ae_var 7) (ae_var 6)) (ass_one (as_do (ae_app (ae_var 4) (ae_tup (aa_cons (ae_op o_add (ae_var 5) (ae_tup (aa_cons (ae_var 7) aa_nil))) (aa_cons (ae_call D_step_in (hr.mono (by decide)) (aa_cons (ae_var 0) (aa_cons (ae_var 6) (aa_cons (ae_var 7) aa_nil)))) aa_nil)))))) ass_nil)))))
  (ass_one (as_set 2 sc.nd (ae_var 4))))))
  (ass_one (as_ret (ae_callTy c_tuple (by decide +kernel) M.f_tuple (aa_cons (AF.frozen (af_lc ⟨rfl, hu⟩ sc.nd (ai_seq (ae_var 2)) (blkOk_by (own := [("pile", 5), ("barred", 6)]) (by kernel_rfl)) (by decide) (fun _ _ _ _ _ => (ag_tup rfl (ags_cons (ag_name 5 sc.nd) (ags_cons (ag_name 6 sc.nd) ags_nil)) (gsC_len (gsC_len (fun _ _ _ h => gsN_len h))))) (fun _ _ _ _ _ => ats_nil) (fun _ _ _ _ _ => (ae_var 5)))) aa_nil)))))))))
theorem sc__law_counts_right : FnScope ["cup", "letters", "length", "piles", "counts", "one", "some", "far", "own", "left", "ends", "end"] ["cup"] (defScope (top 100)) := ⟨rfl, rfl, rfl, by decide +kernel, rfl, by decide +kernel, by decide +kernel⟩
theorem ok__law_counts_right {P : Program} {w : World} {K : PySem.W.Frag} {mg : Str → Option Value} {base : Heap} {f : Addr} {fd : FuncData} (M : Mg mg) (F : FunD K "_law_counts_right" "_law_counts_right" (defArgs (top 100)) (defBody (top 100)) (defScope (top 100)) [] [] f fd) (gf : mg "_law_counts_right" = some (.ref f)) (D__law_letters : DefOk P w K mg base 2 "_law_letters" f__law_letters) (D__law_roll : DefOk P w K mg base 1 "_law_roll" f__law_roll) (D_piles_of_length : DefOk P w K mg base 5 "piles_of_length" f_piles_of_length) (D_pile_counts : DefOk P w K mg base 5 "pile_counts" f_pile_counts) (D__law_some : DefOk P w K mg base 2 "_law_some" f__law_some) (D_is_beginning : DefOk P w K mg base 7 "is_beginning" f_is_beginning) (D_is_ending : DefOk P w K mg base 7 "is_ending" f_is_ending) (D__law_like : DefOk P w K mg base 7 "_law_like" f__law_like) (D_left_behind : DefOk P w K mg base 7 "left_behind" f_left_behind) (D_left_ahead : DefOk P w K mg base 7 "left_ahead" f_left_ahead) (D_endings_of : DefOk P w K mg base 7 "endings_of" f_endings_of) (D_is_pointed : DefOk P w K mg base 6 "is_pointed" f_is_pointed) : DefOk P w K mg base 8 "_law_counts_right" f__law_counts_right := by
  have sc := sc__law_counts_right
  refine def_ok (P := P) (w := w) (K := K) (mg := mg) (base := base) (k := 7) F sc gf (fun _ _ _ _ _ _ us hl => match us, hl with | [_], _ => rfl) false b__law_counts_right fun cdv A outer s H E hr => ?_
  have hu : (A.deeper (envOfC "_law_counts_right" (defScope (top 100)) s.heap.objs.size f cdv)).units + 64 < cLine := by have := hr.un; omega
  exact (ass_cons (as_set 1 sc.nd (ae_call D__law_letters (hr.mono (by decide)) (aa_cons (ae_var 0) (aa_cons ae_int aa_nil))))
  (ass_cons (as_set 2 sc.nd (ae_op o_add ae_int (ae_call D__law_roll (hr.mono (by decide)) (aa_cons (ae_var 0) (aa_cons (ae_if (at_cmp (o_lt ⟨rfl, hu⟩) (ae_ix (ae_var 1) ae_int) ae_int) ae_int ae_int) aa_nil)))))
  (ass_cons (as_par (i := 3) (j := 4) rfl sc.nd (aa_cons (ae_call D_piles_of_length (hr.mono (by decide)) (aa_cons (ae_var 1) (aa_cons (ae_var 2) aa_nil))) (aa_cons (ae_call D_pile_counts (hr.mono (by decide)) (aa_cons (ae_var 1) (aa_cons (ae_var 2) aa_nil))) aa_nil)))
  (ass_cons (as_set 5 sc.nd (ae_call D__law_some (hr.mono (by decide)) (aa_cons (ae_var 0) (aa_cons (AF.frozen (af_callTy l_list (by decide +kernel) M.f_list (ae_call D_piles_of_length (hr.mono (by decide)) (aa_cons (ae_var 1) (aa_cons (ae_call D__law_roll (hr.mono (by decide)) (aa_cons (ae_var 0) (aa_cons (ae_op o_add (ae_var 2) ae_int) aa_nil))) aa_nil))))) aa_nil))))
  (ass_cons (as_par (i := 6) (j := 7) rfl sc.nd (aa_cons (AF.frozen (af_lc ⟨rfl, hu⟩ sc.nd (ai_seq (ae_var 3)) (blkOk_by (own := [("own", 8)]) (by kernel_rfl)) (by decide) (fun _ _ _ _ _ => (ag_name 8 sc.nd)) (fun _ _ _ _ _ => (ats_one (at_val (ae_call D_is_beginning (hr.mono (by decide)) (aa_cons (ae_var 1) (aa_cons (ae_var 5) (aa_cons (ae_var 8) aa_nil))))))) (fun _ _ _ _ _ => (ae_var 8)))) (aa_cons (AF.frozen (af_lc ⟨rfl, hu⟩ sc.nd (ai_seq (ae_var 3)) (blkOk_by (own := [("own", 8)]) (by kernel_rfl)) (by decide) (fun _ _ _ _ _ => (ag_name 8 sc.nd)) (fun _ _ _ _ _ => (ats_one (at_val (ae_call D_is_ending (hr.mono (by decide)) (aa_cons (ae_var 1) (aa_cons (ae_var 5) (aa_cons (ae_var 8) aa_nil))))))) (fun _ _ _ _ _ => (ae_var 8)))) aa_nil)))
  (ass_cons (as_if (at_not (at_val (ae_call D__law_like (hr.mono (by decide)) (aa_cons (AF.frozen (af_lst (aa_cons (ae_callB c_len (by decide +kernel) M.f_len (aa_cons (ae_var 6) aa_nil)) (aa_cons (ae_callB c_len (by decide +kernel) M.f_len (aa_cons (ae_var 7) aa_nil)) aa_nil)))) (aa_cons (ae_op o_mul (AF.frozen (af_lst (aa_cons (ae_ix (ae_var 4) (ae_op o_sub (ae_var 2) (ae_callB c_len (by decide +kernel) M.f_len (aa_cons (ae_var 5) aa_nil)))) aa_nil))) ae_int) aa_nil))))) (ass_one (as_ret ae_bl)) ass_nil)
  (ass_cons (as_set 9 sc.nd (AF.frozen (af_callB (l_sorted ⟨rfl, hu⟩) (by decide +kernel) M.f_sorted (AF.frozen (af_lc ⟨rfl, hu⟩ sc.nd (ai_seq (ae_var 6)) (blkOk_by (own := [("own", 8)]) (by kernel_rfl)) (by decide) (fun _ _ _ _ _ => (ag_name 8 sc.nd)) (fun _ _ _ _ _ => ats_nil) (fun _ _ _ _ _ => (ae_call D_left_behind (hr.mono (by decide)) (aa_cons (ae_var 1) (aa_cons (ae_var 5) (aa_cons (ae_var 8) aa_nil))))))))))
  (ass_cons (as_if (at_not (at_val (ae_call D__law_like (hr.mono (by decide)) (aa_cons (AF.frozen (af_lst (aa_cons (ae_var 9) (aa_cons (AF.frozen (af_callB (l_sorted ⟨rfl, hu⟩) (by decide +kernel) M.f_sorted (AF.frozen (af_lc ⟨rfl, hu⟩ sc.nd (ai_seq (ae_var 7)) (blkOk_by (own := [("own", 8)]) (by kernel_rfl)) (by decide) (fun _ _ _ _ _ => (ag_name 8 sc.nd)) (fun _ _ _ _ _ => ats_nil) (fun _ _ _ _ _ => (ae_call D_left_ahead (hr.mono (by decide)) (aa_cons (ae_var 1) (aa_cons (ae_var 5) (aa_cons (ae_var 8) aa_nil))))))))) aa_nil)))) (aa_cons (ae_op o_mul (AF.frozen (af_lst (aa_cons (AF.frozen (af_callTy l_list (by decide +kernel) M.f_list (ae_call D_piles_of_length (hr.mono (by decide)) (aa_cons (ae_var 1) (aa_cons (ae_op o_sub (ae_var 2) (ae_callB c_len (by decide +kernel) M.f_len (aa_cons (ae_var 5) aa_nil))) aa_nil))))) aa_nil))) ae_int) aa_nil))))) (ass_one (as_ret ae_bl)) ass_nil)
  (ass_cons (as_for PassesOwn.never rfl (ai_seq (ae_var 3)) (ag_name 8 sc.nd) (ass_cons (as_setLc (i := 10) (m := mFr c__law_counts_right_5) ⟨rfl, hu⟩ sc.nd (ai_seq (ae_call D_endings_of (hr.mono (by decide)) (aa_cons (ae_var 1) (aa_cons (ae_var 8) aa_nil)))) (blkOk_by (own := [("end", 11)]) (by kernel_rfl)) (by decide) (fun _ _ _ _ _ => (ag_name 11 sc.nd)) (fun _ _ _ _ _ => (ats_one (at_cmp (o_eq ⟨rfl, hu⟩) (ae_callB c_len (by decide +kernel) M.f_len (aa_cons (ae_var 11) aa_nil)) ae_int))) (fun _ _ _ _ _ => (ae_var 11)) (fun q => fr_te q))
  (ass_one (as_if (at_cmp (o_ne ⟨rfl, hu⟩) (ae_cmp (o_eq ⟨rfl, hu⟩) (ae_callB c_len (by decide +kernel) M.f_len (aa_cons (ae_var 10) aa_nil)) ae_int) (ae_call D_is_pointed (hr.mono (by decide)) (aa_cons (ae_var 1) (aa_cons (ae_var 8) aa_nil)))) (ass_one (as_ret ae_bl)) ass_nil))))
  (ass_one (as_ret ae_bl)))))))))))
theorem sc__law_cup : FnScope ["script", "cell"] ["script"] (defScope (top 94)) := ⟨rfl, rfl, rfl, by decide +kernel, rfl, by decide +kernel, by decide +kernel⟩
theorem ok__law_cup {P : Program} {w : World} {K : PySem.W.Frag} {mg : Str → Option Value} {base : Heap} {f : Addr} {fd : FuncData} (M : Mg mg) (F : FunD K "_law_cup" "_law_cup" (defArgs (top 94)) (defBody (top 94)) (defScope (top 94)) [] [] f fd) (gf : mg "_law_cup" = some (.ref f)) : DefOk P w K mg base 1 "_law_cup" f__law_cup := by
  have sc := sc__law_cup
  refine def_ok (P := P) (w := w) (K := K) (mg := mg) (base := base) (k := 0) F sc gf (fun _ _ _ _ _ _ us hl => match us, hl with | [_], _ => rfl) true b__law_cup fun cdv A outer s H E hr => ?_
  have hu : (A.deeper (envOfC "_law_cup" (defScope (top 94)) s.heap.objs.size f cdv)).units + 64 < cLine := by have := hr.un; omega
  exact (ass_cons (as_set 1 sc.nd (ae_callB c_abs (by decide +kernel) M.f_abs (aa_cons (ae_ix (ae_op o_add (AF.frozen (af_listS M.f_list (ae_var 0))) (AF.frozen (af_lst (aa_cons ae_int aa_nil)))) ae_int) aa_nil)))
  (ass_one (as_ret (AF.cell (af_lst (aa_cons (ae_if (at_cmp (o_ge ⟨rfl, hu⟩) (ae_var 1) (ae_op o_pow ae_int ae_int)) (ae_op o_fdiv (ae_var 1) ae_int) ae_int) (aa_cons (ae_op o_mod (ae_callTy c_int (by decide +kernel) M.f_int (aa_cons (ae_op o_add (ae_op o_mul (ae_var 1) ae_int) ae_int) aa_nil)) ae_int) aa_nil)))))))
theorem sc__law_all_sets : FnScope ["some", "found", "letter", "own"] ["some"] (defScope (top 102)) := ⟨rfl, rfl, rfl, by decide +kernel, rfl, by decide +kernel, by decide +kernel⟩
theorem ok__law_all_sets {P : Program} {w : World} {K : PySem.W.Frag} {mg : Str → Option Value} {base : Heap} {f : Addr} {fd : FuncData} (M : Mg mg) (F : FunD K "_law_all_sets" "_law_all_sets" (defArgs (top 102)) (defBody (top 102)) (defScope (top 102)) [] [] f fd) (gf : mg "_law_all_sets" = some (.ref f)) : DefOk P w K mg base 1 "_law_all_sets" f__law_all_sets := by
  have sc := sc__law_all_sets
  refine def_ok (P := P) (w := w) (K := K) (mg := mg) (base := base) (k := 0) F sc gf (fun _ _ _ _ _ _ us hl => match us, hl with | [_], _ => rfl) false b__law_all_sets fun cdv A outer s H E hr => ?_
  have hu : (A.deeper (envOfC "_law_all_sets" (defScope (top 102)) s.heap.objs.size f cdv)).units + 64 < cLine := by have := hr.un; omega
  exact (ass_cons (as_set 1 sc.nd (AF.frozen (af_lst (aa_cons (ae_tup aa_nil) aa_nil))))
  (ass_cons (as_for PassesOwn.never rfl (ai_seq (ae_var 0)) (ag_name 2 sc.nd) (ass_one (as_set 1 sc.nd (ae_op o_add (ae_var 1) (AF.frozen (af_lc ⟨rfl, hu⟩ sc.nd (ai_seq (ae_var 1)) (blkOk_by (own := [("own", 3)]) (by kernel_rfl)) (by decide) (fun _ _ _ _ _ => (ag_name 3 sc.nd)) (fun _ _ _ _ _ => ats_nil) (fun _ _ _ _ _ => (ae_op o_add (ae_var 3) (ae_tup (aa_cons (ae_var 2) aa_nil))))))))))
  (ass_one (as_ret (AF.frozen (af_callB (l_sorted ⟨rfl, hu⟩) (by decide +kernel) M.f_sorted (ae_var 1)))))))
theorem sc_beginnings_of : FnScope ["letters", "pile"] ["letters", "pile"] (defScope (top 57)) := ⟨rfl, rfl, rfl, by decide +kernel, rfl, by decide +kernel, by decide +kernel⟩
theorem ok_beginnings_of {P : Program} {w : World} {K : PySem.W.Frag} {mg : Str → Option Value} {base : Heap} {f : Addr} {fd : FuncData} (M : Mg mg) (F : FunD K "beginnings_of" "beginnings_of" (defArgs (top 57)) (defBody (top 57)) (defScope (top 57)) [] [] f fd) (gf : mg "beginnings_of" = some (.ref f)) (D_need_one : DefOk P w K mg base 6 "need_one" f_need_one) (D_beginnings_in : DefOk P w K mg base 4 "beginnings_in" f_beginnings_in) : DefOk P w K mg base 7 "beginnings_of" f_beginnings_of := by
  have sc := sc_beginnings_of
  refine def_ok (P := P) (w := w) (K := K) (mg := mg) (base := base) (k := 6) F sc gf (fun _ _ _ _ _ _ us hl => match us, hl with | [_, _], _ => rfl) false b_beginnings_of fun cdv A outer s H E hr => ?_
  have hu : (A.deeper (envOfC "beginnings_of" (defScope (top 57)) s.heap.objs.size f cdv)).units + 64 < cLine := by have := hr.un; omega
  exact (ass_cons (as_do (ae_call D_need_one (hr.mono (by decide)) (aa_cons (ae_var 0) (aa_cons (ae_var 1) aa_nil))))
  (ass_one (as_ret (ae_callTy c_tuple (by decide +kernel) M.f_tuple (aa_cons (ae_call D_beginnings_in (hr.mono (by decide)) (aa_cons (ae_var 0) (aa_cons (ae_var 1) aa_nil))) aa_nil)))))
theorem sc__law_signs_right : FnScope ["cup", "letters", "pile", "sets", "own", "firsts", "above", "best"] ["cup"] (defScope (top 101)) := ⟨rfl, rfl, rfl, by decide +kernel, rfl, by decide +kernel, by decide +kernel⟩
theorem ok__law_signs_right {P : Program} {w : World} {K : PySem.W.Frag} {mg : Str → Option Value} {base : Heap} {f : Addr} {fd : FuncData} (M : Mg mg) (F : FunD K "_law_signs_right" "_law_signs_right" (defArgs (top 101)) (defBody (top 101)) (defScope (top 101)) [] [] f fd) (gf : mg "_law_signs_right" = some (.ref f)) (D__law_letters : DefOk P w K mg base 2 "_law_letters" f__law_letters) (D__law_some : DefOk P w K mg base 2 "_law_some" f__law_some) (D_piles_of_length : DefOk P w K mg base 5 "piles_of_length" f_piles_of_length) (D__law_roll : DefOk P w K mg base 1 "_law_roll" f__law_roll) (D_beginnings_of : DefOk P w K mg base 7 "beginnings_of" f_beginnings_of) (D_is_free_set : DefOk P w K mg base 5 "is_free_set" f_is_free_set) (D_pile_above : DefOk P w K mg base 8 "pile_above" f_pile_above) (D__law_like : DefOk P w K mg base 7 "_law_like" f__law_like) (D__law_all_sets : DefOk P w K mg base 1 "_law_all_sets" f__law_all_sets) : DefOk P w K mg base 9 "_law_signs_right" f__law_signs_right := by
  have sc := sc__law_signs_right
  refine def_ok (P := P) (w := w) (K := K) (mg := mg) (base := base) (k := 8) F sc gf (fun _ _ _ _ _ _ us hl => match us, hl with | [_], _ => rfl) false b__law_signs_right fun cdv A outer s H E hr => ?_
  have hu : (A.deeper (envOfC "_law_signs_right" (defScope (top 101)) s.heap.objs.size f cdv)).units + 64 < cLine := by have := hr.un; omega
  exact (ass_cons (as_set 1 sc.nd (ae_call D__law_letters (hr.mono (by decide)) (aa_cons (ae_var 0) (aa_cons ae_int aa_nil))))
  (ass_cons (as_set 2 sc.nd (ae_call D__law_some (hr.mono (by decide)) (aa_cons (ae_var 0) (aa_cons (AF.frozen (af_callTy l_list (by decide +kernel) M.f_list (ae_call D_piles_of_length (hr.mono (by decide)) (aa_cons (ae_var 1) (aa_cons (ae_op o_add ae_int (ae_call D__law_roll (hr.mono (by decide)) (aa_cons (ae_var 0) (aa_cons ae_int aa_nil)))) aa_nil))))) aa_nil))))
  (ass_cons (as_setLc (i := 3) (m := mFr c__law_signs_right_1) ⟨rfl, hu⟩ sc.nd (ai_seq (ae_call D_beginnings_of (hr.mono (by decide)) (aa_cons (ae_var 1) (aa_cons (ae_var 2) aa_nil)))) (blkOk_by (own := [("own", 4)]) (by kernel_rfl)) (by decide) (fun _ _ _ _ _ => (ag_name 4 sc.nd)) (fun _ _ _ _ _ => (ats_one (at_val (ae_call D_is_free_set (hr.mono (by decide)) (aa_cons (ae_var 1) (aa_cons (ae_callTy c_tuple (by decide +kernel) M.f_tuple (aa_cons (AF.frozen (af_callB (l_sorted ⟨rfl, hu⟩) (by decide +kernel) M.f_sorted (ae_var 4))) aa_nil)) aa_nil)))))) (fun _ _ _ _ _ => (ae_var 4)) (fun q => fr_te q))
  (ass_cons (as_if (at_cmp (o_ne ⟨rfl, hu⟩) (ae_callB (c_sum ⟨rfl, hu⟩) (by decide +kernel) M.f_sum (aa_cons (AF.frozen (af_lc ⟨rfl, hu⟩ sc.nd (ai_seq (ae_var 3)) (blkOk_by (own := [("own", 4)]) (by kernel_rfl)) (by decide) (fun _ _ _ _ _ => (ag_name 4 sc.nd)) (fun _ _ _ _ _ => ats_nil) (fun _ _ _ _ _ => (ae_if (at_cmp (o_eq ⟨rfl, hu⟩) (ae_op o_mod (ae_callTy c_int (by decide +kernel) M.f_int (aa_cons (ae_callB c_len (by decide +kernel) M.f_len (aa_cons (ae_var 4) aa_nil)) aa_nil)) ae_int) ae_int) ae_int (ae_neg ae_int))))) aa_nil)) ae_int) (ass_one (as_ret ae_bl)) ass_nil)
  (ass_cons (as_setLc (i := 5) (m := mFr c__law_signs_right_3) ⟨rfl, hu⟩ sc.nd (ai_seq (ae_var 3)) (blkOk_by (own := [("own", 4)]) (by kernel_rfl)) (by decide) (fun _ _ _ _ _ => (ag_name 4 sc.nd)) (fun _ _ _ _ _ => (ats_one (at_cmp (o_eq ⟨rfl, hu⟩) (ae_callB c_len (by decide +kernel) M.f_len (aa_cons (ae_var 4) aa_nil)) ae_int))) (fun _ _ _ _ _ => (ae_var 4)) (fun q => fr_te q))
  (ass_cons (as_set 6 sc.nd (ae_call D_pile_above (hr.mono (by decide)) (aa_cons (ae_var 1) (aa_cons (ae_callTy c_tuple (by decide +kernel) M.f_tuple (aa_cons (ae_var 5) aa_nil)) aa_nil))))
  (ass_cons (as_set 7 sc.nd (ae_maxLen ⟨rfl, hu⟩ M.f_max M.f_len (ae_var 3)))
  (ass_one (as_ret (ae_call D__law_like (hr.mono (by decide)) (aa_cons (AF.frozen (af_lst (aa_cons (ae_var 6) (aa_cons (AF.frozen (af_callB (l_sorted ⟨rfl, hu⟩) (by decide +kernel) M.f_sorted (ae_var 3))) aa_nil)))) (aa_cons (AF.frozen (af_lst (aa_cons (ae_var 7) (aa_cons (ae_call D__law_all_sets (hr.mono (by decide)) (aa_cons (AF.frozen (af_callB (l_sorted ⟨rfl, hu⟩) (by decide +kernel) M.f_sorted (ae_var 7))) aa_nil)) aa_nil)))) aa_nil))))))))))))
theorem sc_greatest_free_sets : FnScope ["letters", "found", "own", "more", "letter", "far"] ["letters"] (defScope (top 26)) := ⟨rfl, rfl, rfl, by decide +kernel, rfl, by decide +kernel, by decide +kernel⟩
theorem ok_greatest_free_sets {P : Program} {w : World} {K : PySem.W.Frag} {mg : Str → Option Value} {base : Heap} {f : Addr} {fd : FuncData} (M : Mg mg) (F : FunD K "greatest_free_sets" "greatest_free_sets" (defArgs (top 26)) (defBody (top 26)) (defScope (top 26)) [] [] f fd) (gf : mg "greatest_free_sets" = some (.ref f)) (D_need_letters : DefOk P w K mg base 4 "need_letters" f_need_letters) (D_sets_in : DefOk P w K mg base 2 "sets_in" f_sets_in) (D_every_letter : DefOk P w K mg base 1 "every_letter" f_every_letter) (D_is_free : DefOk P w K mg base 1 "is_free" f_is_free) : DefOk P w K mg base 5 "greatest_free_sets" f_greatest_free_sets := by
  have sc := sc_greatest_free_sets
  refine def_ok (P := P) (w := w) (K := K) (mg := mg) (base := base) (k := 4) F sc gf (fun _ _ _ _ _ _ us hl => match us, hl with | [_], _ => rfl) false b_greatest_free_sets fun cdv A outer s H E hr => ?_
  have hu : (A.deeper (envOfC "greatest_free_sets" (defScope (top 26)) s.heap.objs.size f cdv)).units + 64 < cLine := by have := hr.un; omega
  exact (ass_cons (as_do (ae_call D_need_letters (hr.mono (by decide)) (aa_cons (ae_var 0) aa_nil)))
  (ass_cons (as_set 1 sc.nd (AF.cell (af_lst aa_nil)))
  (ass_cons (as_for PassesOwn.never rfl (ai_seq (ae_call D_sets_in (hr.mono (by decide)) (aa_cons (ae_var 0) (aa_cons (ae_call D_every_letter (hr.mono (by decide)) (aa_cons (ae_var 0) aa_nil)) aa_nil)))) (ag_name 2 sc.nd) (ass_cons (as_setLc (i := 3) (m := mFr c_greatest_free_sets_2) ⟨rfl, hu⟩ sc.nd (ai_range1 (aa_cons (ae_ix (ae_var 0) ae_int) aa_nil) M.f_range) (blkOk_by (own := [("letter", 4)]) (by kernel_rfl)) (by decide) (fun _ _ _ _ _ => (ag_name 4 sc.nd)) (fun _ _ _ _ _ => (ats_one (at_val (ae_callB (c_all ⟨rfl, hu⟩) (by decide +kernel) M.f_all (aa_cons (AF.frozen (af_lc ⟨rfl, hu⟩ sc.nd (ai_seq (ae_var 2)) (blkOk_by (own := [("far", 5)]) (by kernel_rfl)) (by decide) (fun _ _ _ _ _ => (ag_name 5 sc.nd)) (fun _ _ _ _ _ => ats_nil) (fun _ _ _ _ _ => (ae_call D_is_free (hr.mono (by decide)) (aa_cons (ae_var 0) (aa_cons (ae_var 4) (aa_cons (ae_var 5) aa_nil))))))) aa_nil))))) (fun _ _ _ _ _ => (ae_var 4)) (fun q => fr_te q))
  (ass_one (as_if (at_cmp (o_eq ⟨rfl, hu⟩) (ae_var 3) (AF.frozen (af_lst aa_nil))) (ass_one (as_do (ae_app (ae_var 1) (ae_var 2)))) ass_nil))))
  (ass_one (as_ret (ae_callTy c_tuple (by decide +kernel) M.f_tuple (aa_cons (ae_var 1) aa_nil)))))))
theorem sc_by_top : FnScope ["letters", "top", "most", "free", "letter", "signs", "counts", "found", "length", "at", "own"] ["letters", "top", "most"] (defScope (top 89)) := ⟨rfl, rfl, rfl, by decide +kernel, rfl, by decide +kernel, by decide +kernel⟩
theorem ok_by_top {P : Program} {w : World} {K : PySem.W.Frag} {mg : Str → Option Value} {base : Heap} {f : Addr} {fd : FuncData} (M : Mg mg) (F : FunD K "by_top" "by_top" (defArgs (top 89)) (defBody (top 89)) (defScope (top 89)) [] [] f fd) (gf : mg "by_top" = some (.ref f)) (D_is_free : DefOk P w K mg base 1 "is_free" f_is_free) (D_sign_in : DefOk P w K mg base 3 "sign_in" f_sign_in) (D_counts_in : DefOk P w K mg base 4 "counts_in" f_counts_in) : DefOk P w K mg base 5 "by_top" f_by_top := by
  have sc := sc_by_top
  refine def_ok (P := P) (w := w) (K := K) (mg := mg) (base := base) (k := 4) F sc gf (fun _ _ _ _ _ _ us hl => match us, hl with | [_, _, _], _ => rfl) false b_by_top fun cdv A outer s H E hr => ?_
  have hu : (A.deeper (envOfC "by_top" (defScope (top 89)) s.heap.objs.size f cdv)).units + 64 < cLine := by have := hr.un; omega
  exact (ass_cons (as_set 3 sc.nd (ae_callTy c_tuple (by decide +kernel) M.f_tuple (aa_cons (AF.frozen (af_lc ⟨rfl, hu⟩ sc.nd (ai_range1 (aa_cons (ae_ix (ae_var 0) ae_int) aa_nil) M.f_range) (blkOk_by (own := [("letter", 4)]) (by kernel_rfl)) (by decide) (fun _ _ _ _ _ => (ag_name 4 sc.nd)) (fun _ _ _ _ _ => (ats_one (at_val (ae_call D_is_free (hr.mono (by decide)) (aa_cons (ae_var 0) (aa_cons (ae_var 4) (aa_cons (ae_var 1) aa_nil))))))) (fun _ _ _ _ _ => (ae_var 4)))) aa_nil)))
  (ass_cons (as_unp rfl (aa_cons (ae_call D_sign_in (hr.mono (by decide)) (aa_cons (ae_var 0) (aa_cons (ae_var 3) aa_nil))) (aa_cons (ae_call D_counts_in (hr.mono (by decide)) (aa_cons (ae_var 0) (aa_cons (ae_var 2) aa_nil))) aa_nil)) (ags_cons (ag_name 5 sc.nd) (ags_cons (ag_name 6 sc.nd) ags_nil)) (gsC_len (gsC_len (fun _ _ _ h => gsN_len h))))
  (ass_cons (as_set 7 sc.nd (AF.cell (af_lst aa_nil)))
  (ass_cons (as_for PassesOwn.never rfl (ai_range1 (aa_cons (ae_var 2) aa_nil) M.f_range) (ag_name 8 sc.nd) (ass_one (as_do (ae_app (ae_var 7) (ae_callB (c_sum ⟨rfl, hu⟩) (by decide +kernel) M.f_sum (aa_cons (AF.frozen (af_lc ⟨rfl, hu⟩ sc.nd (ai_enum (ae_var 5) M.f_enumerate) (blkOk_by (own := [("at", 9), ("own", 10)]) (by kernel_rfl)) (by decide) (fun _ _ _ _ _ => (ag_tup rfl (ags_cons (ag_name 9 sc.nd) (ags_cons (ag_name 10 sc.nd) ags_nil)) (gsC_len (gsC_len (fun _ _ _ h => gsN_len h))))) (fun _ _ _ _ _ => (ats_one (at_cmp (o_le ⟨rfl, hu⟩) (ae_var 9) (ae_var 8)))) (fun _ _ _ _ _ => (ae_op o_mul (ae_var 10) (ae_ix (ae_var 6) (ae_op o_sub (ae_var 8) (ae_var 9))))))) aa_nil))))))
  (ass_one (as_ret (ae_var 7)))))))
theorem sc_pointed_counts : FnScope ["letters", "most", "rows", "top", "row", "at"] ["letters", "most"] (defScope (top 91)) := ⟨rfl, rfl, rfl, by decide +kernel, rfl, by decide +kernel, by decide +kernel⟩
theorem ok_pointed_counts {P : Program} {w : World} {K : PySem.W.Frag} {mg : Str → Option Value} {base : Heap} {f : Addr} {fd : FuncData} (M : Mg mg) (F : FunD K "pointed_counts" "pointed_counts" (defArgs (top 91)) (defBody (top 91)) (defScope (top 91)) [] [] f fd) (gf : mg "pointed_counts" = some (.ref f)) (D_need_letters : DefOk P w K mg base 4 "need_letters" f_need_letters) (D_need_whole : DefOk P w K mg base 2 "need_whole" f_need_whole) (D_by_top : DefOk P w K mg base 5 "by_top" f_by_top) : DefOk P w K mg base 6 "pointed_counts" f_pointed_counts := by
  obtain ⟨t_LONG_pilecounts, h_LONG_pilecounts⟩ := M.i_LONG_pilecounts
  have sc := sc_pointed_counts
  refine def_ok (P := P) (w := w) (K := K) (mg := mg) (base := base) (k := 5) F sc gf (fun _ _ _ _ _ _ us hl => match us, hl with | [_, _], _ => rfl) false b_pointed_counts fun cdv A outer s H E hr => ?_
  have hu : (A.deeper (envOfC "pointed_counts" (defScope (top 91)) s.heap.objs.size f cdv)).units + 64 < cLine := by have := hr.un; omega
  exact (ass_cons (as_do (ae_call D_need_letters (hr.mono (by decide)) (aa_cons (ae_var 0) aa_nil)))
  (ass_cons (as_do (ae_call D_need_whole (hr.mono (by decide)) (aa_cons (ae_var 1) (aa_cons ae_int (aa_cons (ae_globI (by rfl) h_LONG_pilecounts) aa_nil)))))
  (ass_cons (as_set 2 sc.nd (AF.frozen (af_lc ⟨rfl, hu⟩ sc.nd (ai_range1 (aa_cons (ae_ix (ae_var 0) ae_int) aa_nil) M.f_range) (blkOk_by (own := [("top", 3)]) (by kernel_rfl)) (by decide) (fun _ _ _ _ _ => (ag_name 3 sc.nd)) (fun _ _ _ _ _ => ats_nil) (fun _ _ _ _ _ => (ae_call D_by_top (hr.mono (by decide)) (aa_cons (ae_var 0) (aa_cons (ae_var 3) (aa_cons (ae_var 1) aa_nil))))))))
  (ass_one (as_ret (ae_callTy c_tuple (by decide +kernel) M.f_tuple (aa_cons (AF.frozen (af_lc ⟨rfl, hu⟩ sc.nd (ai_range1 (aa_cons (ae_var 1) aa_nil) M.f_range) (blkOk_by (own := [("at", 5)]) (by kernel_rfl)) (by decide) (fun _ _ _ _ _ => (ag_name 5 sc.nd)) (fun _ _ _ _ _ => ats_nil) (fun _ _ _ _ _ => (ae_callB (c_sum ⟨rfl, hu⟩) (by decide +kernel) M.f_sum (aa_cons (AF.frozen (af_lc ⟨rfl, hu⟩ sc.nd (ai_seq (ae_var 2)) (blkOk_by (own := [("row", 4)]) (by kernel_rfl)) (by decide) (fun _ _ _ _ _ => (ag_name 4 sc.nd)) (fun _ _ _ _ _ => ats_nil) (fun _ _ _ _ _ => (ae_ix (ae_var 4) (ae_var 5))))) aa_nil))))) aa_nil)))))))
theorem sc__law_written_right : FnScope ["a", "told", "due", "own"] [] (defScope (top 104)) := ⟨rfl, rfl, rfl, by decide +kernel, rfl, by decide +kernel, by decide +kernel⟩
theorem ok__law_written_right {P : Program} {w : World} {K : PySem.W.Frag} {mg : Str → Option Value} {base : Heap} {f : Addr} {fd : FuncData} (M : Mg mg) (F : FunD K "_law_written_right" "_law_written_right" (defArgs (top 104)) (defBody (top 104)) (defScope (top 104)) [] [] f fd) (gf : mg "_law_written_right" = some (.ref f)) (D_pile_counts : DefOk P w K mg base 5 "pile_counts" f_pile_counts) (D_above_bar : DefOk P w K mg base 7 "above_bar" f_above_bar) (D_pile_above : DefOk P w K mg base 8 "pile_above" f_pile_above) (D_beginnings_of : DefOk P w K mg base 7 "beginnings_of" f_beginnings_of) (D_greatest_free_sets : DefOk P w K mg base 5 "greatest_free_sets" f_greatest_free_sets) (D_four_parts : DefOk P w K mg base 8 "four_parts" f_four_parts) (D_piles_of_length : DefOk P w K mg base 5 "piles_of_length" f_piles_of_length) (D_is_beginning : DefOk P w K mg base 7 "is_beginning" f_is_beginning) (D_common_beginning : DefOk P w K mg base 7 "common_beginning" f_common_beginning) (D_is_pointed : DefOk P w K mg base 6 "is_pointed" f_is_pointed) (D_endings_of : DefOk P w K mg base 7 "endings_of" f_endings_of) (D_pointed_counts : DefOk P w K mg base 6 "pointed_counts" f_pointed_counts) (D__law_like : DefOk P w K mg base 7 "_law_like" f__law_like) : DefOk P w K mg base 9 "_law_written_right" f__law_written_right := by
  have sc := sc__law_written_right
  refine def_ok (P := P) (w := w) (K := K) (mg := mg) (base := base) (k := 8) F sc gf (fun _ _ _ _ _ _ us hl => match us, hl with | [], _ => rfl) false b__law_written_right fun cdv A outer s H E hr => ?_
  have hu : (A.deeper (envOfC "_law_written_right" (defScope (top 104)) s.heap.objs.size f cdv)).units + 64 < cLine := by have := hr.un; omega
  exact (ass_cons (as_set 0 sc.nd (ae_tup (aa_cons ae_int (aa_cons (ae_tup (aa_cons (ae_tup (aa_cons ae_int (aa_cons ae_int aa_nil))) aa_nil)) aa_nil))))
  (ass_cons (as_set 1 sc.nd (AF.frozen (af_lst (aa_cons (ae_call D_beginnings_of (hr.mono (by decide)) (aa_cons (ae_var 0) (aa_cons (ae_tup (aa_cons ae_int (aa_cons ae_int (aa_cons ae_int aa_nil)))) aa_nil))) (aa_cons (ae_call D_pile_above (hr.mono (by decide)) (aa_cons (ae_var 0) (aa_cons (ae_tup (aa_cons (ae_tup (aa_cons ae_int aa_nil)) (aa_cons (ae_tup (aa_cons ae_int aa_nil)) aa_nil))) aa_nil))) (aa_cons (ae_call D_pile_above (hr.mono (by decide)) (aa_cons (ae_var 0) (aa_cons (ae_tup (aa_cons (ae_tup (aa_cons ae_int aa_nil)) (aa_cons (ae_tup (aa_cons ae_int aa_nil)) aa_nil))) aa_nil))) (aa_cons (ae_call D_above_bar (hr.mono (by decide)) (aa_cons (ae_var 0) (aa_cons (ae_tup (aa_cons ae_int aa_nil)) (aa_cons (ae_tup (aa_cons ae_int aa_nil)) aa_nil)))) (aa_cons (ae_call D_pile_counts (hr.mono (by decide)) (aa_cons (ae_var 0) (aa_cons ae_int aa_nil))) aa_nil))))))))
  (ass_cons (as_set 2 sc.nd (AF.frozen (af_lst (aa_cons (ae_tup (aa_cons (ae_tup aa_nil) (aa_cons (ae_tup (aa_cons ae_int aa_nil)) (aa_cons (ae_tup (aa_cons ae_int aa_nil)) (aa_cons (ae_tup (aa_cons ae_int (aa_cons ae_int aa_nil))) (aa_cons (ae_tup (aa_cons ae_int (aa_cons ae_int (aa_cons ae_int aa_nil)))) aa_nil)))))) (aa_cons (ae_tup (aa_cons ae_int (aa_cons ae_int aa_nil))) (aa_cons ae_non (aa_cons (ae_tup (aa_cons ae_int (aa_cons ae_int aa_nil))) (aa_cons (ae_tup (aa_cons ae_int (aa_cons ae_int (aa_cons ae_int aa_nil)))) aa_nil))))))))
  (ass_cons (as_set 1 sc.nd (ae_op o_add (ae_var 1) (AF.frozen (af_lst (aa_cons (ae_callB c_len (by decide +kernel) M.f_len (aa_cons (AF.frozen (af_lc ⟨rfl, hu⟩ sc.nd (ai_seq (ae_call D_piles_of_length (hr.mono (by decide)) (aa_cons (ae_var 0) (aa_cons ae_int aa_nil)))) (blkOk_by (own := [("own", 3)]) (by kernel_rfl)) (by decide) (fun _ _ _ _ _ => (ag_name 3 sc.nd)) (fun _ _ _ _ _ => (ats_one (at_val (ae_call D_is_beginning (hr.mono (by decide)) (aa_cons (ae_var 0) (aa_cons (ae_tup (aa_cons ae_int aa_nil)) (aa_cons (ae_var 3) aa_nil))))))) (fun _ _ _ _ _ => (ae_var 3)))) aa_nil)) (aa_cons (ae_call D_four_parts (hr.mono (by decide)) (aa_cons (ae_var 0) (aa_cons (ae_tup (aa_cons ae_int aa_nil)) (aa_cons (ae_tup (aa_cons ae_int aa_nil)) (aa_cons (ae_tup (aa_cons ae_int aa_nil)) (aa_cons (ae_tup (aa_cons ae_int aa_nil)) aa_nil)))))) (aa_cons (ae_call D_greatest_free_sets (hr.mono (by decide)) (aa_cons (ae_var 0) aa_nil)) aa_nil)))))))
  (ass_cons (as_set 2 sc.nd (ae_op o_add (ae_var 2) (AF.frozen (af_lst (aa_cons ae_int (aa_cons (ae_tup (aa_cons (ae_tup aa_nil) (aa_cons (ae_tup (aa_cons ae_int aa_nil)) (aa_cons (ae_tup (aa_cons ae_int aa_nil)) (aa_cons (ae_tup aa_nil) aa_nil))))) (aa_cons (ae_tup (aa_cons (ae_tup (aa_cons ae_int (aa_cons ae_int aa_nil))) (aa_cons (ae_tup (aa_cons ae_int aa_nil)) aa_nil))) aa_nil)))))))
  (ass_cons (as_set 1 sc.nd (ae_op o_add (ae_var 1) (AF.frozen (af_lst (aa_cons (ae_call D_pointed_counts (hr.mono (by decide)) (aa_cons (ae_var 0) (aa_cons ae_int aa_nil))) (aa_cons (AF.frozen (af_lc ⟨rfl, hu⟩ sc.nd (ai_seq (ae_call D_endings_of (hr.mono (by decide)) (aa_cons (ae_var 0) (aa_cons (ae_tup (aa_cons ae_int (aa_cons ae_int (aa_cons ae_int aa_nil)))) aa_nil)))) (blkOk_by (own := [("own", 3)]) (by kernel_rfl)) (by decide) (fun _ _ _ _ _ => (ag_name 3 sc.nd)) (fun _ _ _ _ _ => (ats_one (at_cmp (o_eq ⟨rfl, hu⟩) (ae_callB c_len (by decide +kernel) M.f_len (aa_cons (ae_var 3) aa_nil)) ae_int))) (fun _ _ _ _ _ => (ae_var 3)))) (aa_cons (ae_call D_is_pointed (hr.mono (by decide)) (aa_cons (ae_var 0) (aa_cons (ae_tup (aa_cons ae_int (aa_cons ae_int (aa_cons ae_int aa_nil)))) aa_nil))) (aa_cons (ae_call D_common_beginning (hr.mono (by decide)) (aa_cons (ae_var 0) (aa_cons (ae_tup (aa_cons (ae_tup (aa_cons ae_int (aa_cons ae_int (aa_cons ae_int aa_nil)))) (aa_cons (ae_tup (aa_cons ae_int (aa_cons ae_int aa_nil))) aa_nil))) aa_nil))) aa_nil))))))))
  (ass_one (as_ret (ae_call D__law_like (hr.mono (by decide)) (aa_cons (ae_var 1) (aa_cons (ae_op o_add (ae_var 2) (AF.frozen (af_lst (aa_cons (ae_tup (aa_cons ae_int (aa_cons ae_int aa_nil))) (aa_cons (AF.frozen (af_lst (aa_cons (ae_tup (aa_cons ae_int aa_nil)) (aa_cons (ae_tup (aa_cons ae_int aa_nil)) aa_nil)))) (aa_cons ae_bl (aa_cons (ae_tup (aa_cons ae_int (aa_cons ae_int aa_nil))) aa_nil))))))) aa_nil)))))))))))
theorem sc_law : FnScope ["script", "cup", "turn"] ["script"] (defScope (top 105)) := ⟨rfl, rfl, rfl, by decide +kernel, rfl, by decide +kernel, by decide +kernel⟩
theorem fn_law {P : Program} {w : World} {K : PySem.W.Frag} {mg : Str → Option Value} {base : Heap} {f : Addr} {fd : FuncData} (M : Mg mg) (F : FunD K "law" "law" (defArgs (top 105)) (defBody (top 105)) (defScope (top 105)) [] [] f fd) (gf : mg "law" = some (.ref f)) (D__law_written_right : DefOk P w K mg base 9 "_law_written_right" f__law_written_right) (D__law_cup : DefOk P w K mg base 1 "_law_cup" f__law_cup) (D__law_counts_right : DefOk P w K mg base 8 "_law_counts_right" f__law_counts_right) (D__law_signs_right : DefOk P w K mg base 9 "_law_signs_right" f__law_signs_right) (D__law_above_right : DefOk P w K mg base 9 "_law_above_right" f__law_above_right) : FnOk P w K mg base CX0 10 f fd ["script"] (spE K f_law) := by
  have sc := sc_law
  refine def_fn (P := P) (w := w) (K := K) (mg := mg) (base := base) (k := 9) F sc gf (fun _ _ _ _ _ _ us hl => match us, hl with | [_], _ => rfl) false b_law fun cdv A outer s H E hr => ?_
  have hu : (A.deeper (envOfC "law" (defScope (top 105)) s.heap.objs.size f cdv)).units + 64 < cLine := by have := hr.un; omega
  exact (ass_cons (as_if (at_not (at_val (ae_call0 D__law_written_right (hr.mono (by decide))))) (ass_one (as_ret ae_bl)) ass_nil)
  (ass_cons (as_set 1 sc.nd (ae_call D__law_cup (hr.mono (by decide)) (aa_cons (ae_var 0) aa_nil)))
  (ass_cons (as_for PassesOwn.never rfl (ai_range1 (aa_cons ae_int aa_nil) M.f_range) (ag_name 2 sc.nd) (ass_one (as_if (at_w (aw_or (at_not (at_val (ae_call D__law_counts_right (hr.mono (by decide)) (aa_cons (ae_var 1) aa_nil)))) (aw_or (at_not (at_val (ae_call D__law_signs_right (hr.mono (by decide)) (aa_cons (ae_var 1) aa_nil)))) (aw_or1 (at_not (at_val (ae_call D__law_above_right (hr.mono (by decide)) (aa_cons (ae_var 1) aa_nil)))))))) (ass_one (as_ret ae_bl)) ass_nil)))
  (ass_one (as_ret ae_bl)))))
end LW
set_option linter.all false
set_option maxRecDepth 100000
/-! P3: the defs of k85, what they compute: letters, free sets. -/
namespace PL
open PySem Ev LW Tr
structure Gr where
  n : Nat
  ps : List (Nat × Nat)
def wI (w : List Nat) : List PyData := w.map fun a => .int (a : Nat)
def encT (w : List Nat) : PyData := .tuple (wI w)
def encL (w : List Nat) : PyData := .list (wI w)
def encP (p : Nat × Nat) : PyData := .tuple [.int (p.1 : Nat), .int (p.2 : Nat)]
def encG (g : Gr) : PyData := .tuple [.int (g.n : Nat), .tuple (g.ps.map encP)]
def frB (g : Gr) (a b : Nat) : Bool := g.ps.contains (if a < b then (a, b) else (b, a))
theorem eqv_int (a b : Int) : PyData.eqv (.int a) (.int b) = decide (a = b) := by
  show (a == b) = _
  rfl
theorem any_pair (ps : List (Nat × Nat)) (a b : Nat) : ((ps.map encP).any fun z => PyData.eqv z (.tuple [.int (a : Nat), .int (b : Nat)])) = ps.contains (a, b) := by
  induction ps with
  | nil => rfl
  | cons p ps ih =>
    rw [List.map_cons, List.any_cons, ih, List.contains_cons]
    congr 1
    obtain ⟨x, y⟩ := p
    show (PyData.eqv (.int x) (.int a) && (PyData.eqv (.int y) (.int b) && true)) = _
    rw [eqv_int, eqv_int]
    rw [Bool.eq_iff_iff]
    simp
    constructor
    · rintro ⟨h1, h2⟩; exact ⟨by omega, by omega⟩
    · rintro ⟨h1, h2⟩; exact ⟨by omega, by omega⟩
theorem ilt_nat (a b : Nat) : ilt (a : Nat) (b : Nat) = decide (a < b) := by rw [ilt_eq]; simp
/-- the steps of a def's text -/
theorem fnM_at {kp : Bool} {n N : Nat} {mb : MS} {ws : List Wv} {S : Sto} (h : (ws.length == n) = true) : fnM kp n N mb ws S = (mb (env0 N ws) S).bind fun p => match p.1 with
    | .rt w => outW kp S.length w p.2.2
    | .nx => some (.d .none, p.2.2.take S.length)
    | _ => none := by unfold fnM; rw [if_pos h]; all_goals rfl
theorem few_le {n : Nat} (h : n ≤ 1000000) : few n = true := Nat.ble_eq.mpr h
theorem is_free_s (g : Gr) (a b : Nat) (S : Sto) : f_is_free [.d (encG g), .d (.int (a : Nat)), .d (.int (b : Nat))] S = some (.d (.bool (frB g a b)), S) := by
  unfold f_is_free
  rw [fnM_at rfl]
  unfold frB
  rw [← any_pair]
  by_cases h : a < b <;>
    simp [b_is_free, env0, mRet, mSeq, mSet, mDo, mNext, mNever, mIfS, mAsg, mUnp, mPar, mPar3, mBin, mIf, mBool, mAnd, mOr, mNot, mAndV, mOrV, mNotV, mVar, getV, mTup, mFr, mNew, mDisp, mCons, mNil, mC, mNeg, mFn, mCall, rds, rd, datas, datW, dIx, ixD, outW, mIsa, mChain, mSl, mNoP, mPart, mIt, srcW, mEnum, gN, gT, gsC, gsN, mRetN, mBrk, few, dLt, ltD, encG, dIn, ilt_nat, h, shal, seqD]
theorem is_whole_s (a lo hi : Int) (S : Sto) : f_is_whole [.d (.int a), .d (.int lo), .d (.int hi)] S = some (.d (.bool (decide (lo ≤ a ∧ a ≤ hi))), S) := by
  unfold f_is_whole
  rw [fnM_at rfl]
  by_cases h : lo ≤ a
  · have h' : ¬ a < lo := by omega
    by_cases h2 : a ≤ hi
    · have h2' : ¬ hi < a := by omega
      simp [b_is_whole, env0, mRet, mSeq, mSet, mDo, mNext, mNever, mIfS, mAsg, mUnp, mPar, mPar3, mBin, mIf, mBool, mAnd, mOr, mNot, mAndV, mOrV, mNotV, mVar, getV, mTup, mFr, mNew, mDisp, mCons, mNil, mC, mNeg, mFn, mCall, rds, rd, datas, datW, dIx, ixD, outW, mIsa, mChain, mSl, mNoP, mPart, mIt, srcW, mEnum, gN, gT, gsC, gsN, mRetN, mBrk, PyData.isInt, PyData.isBool, dLe, ltD, ilt_eq, h, h', h2, h2']
    · have h2' : hi < a := by omega
      simp [b_is_whole, env0, mRet, mSeq, mSet, mDo, mNext, mNever, mIfS, mAsg, mUnp, mPar, mPar3, mBin, mIf, mBool, mAnd, mOr, mNot, mAndV, mOrV, mNotV, mVar, getV, mTup, mFr, mNew, mDisp, mCons, mNil, mC, mNeg, mFn, mCall, rds, rd, datas, datW, dIx, ixD, outW, mIsa, mChain, mSl, mNoP, mPart, mIt, srcW, mEnum, gN, gT, gsC, gsN, mRetN, mBrk, PyData.isInt, PyData.isBool, dLe, ltD, ilt_eq, h, h', h2, h2']
  · have h' : a < lo := by omega
    simp [b_is_whole, env0, mRet, mSeq, mSet, mDo, mNext, mNever, mIfS, mAsg, mUnp, mPar, mPar3, mBin, mIf, mBool, mAnd, mOr, mNot, mAndV, mOrV, mNotV, mVar, getV, mTup, mFr, mNew, mDisp, mCons, mNil, mC, mNeg, mFn, mCall, rds, rd, datas, datW, dIx, ixD, outW, mIsa, mChain, mSl, mNoP, mPart, mIt, srcW, mEnum, gN, gT, gsC, gsN, mRetN, mBrk, PyData.isInt, PyData.isBool, dLe, ltD, ilt_eq, h, h']
theorem is_tuple_of_s (xs : List PyData) (lo hi : Int) (S : Sto) : f_is_tuple_of [.d (.tuple xs), .d (.int lo), .d (.int hi)] S = some (.d (.bool (decide (lo ≤ xs.length ∧ (xs.length : Int) ≤ hi))), S) := by
  unfold f_is_tuple_of
  rw [fnM_at rfl]
  by_cases h : lo ≤ xs.length
  · have h' : ¬ (xs.length : Int) < lo := by omega
    by_cases h2 : (xs.length : Int) ≤ hi
    · have h2' : ¬ hi < (xs.length : Int) := by omega
      simp [b_is_tuple_of, env0, mRet, mSeq, mSet, mDo, mNext, mNever, mIfS, mAsg, mUnp, mPar, mPar3, mBin, mIf, mBool, mAnd, mOr, mNot, mAndV, mOrV, mNotV, mVar, getV, mTup, mFr, mNew, mDisp, mCons, mNil, mC, mNeg, mFn, mCall, rds, rd, datas, datW, dIx, ixD, outW, mIsa, mChain, mSl, mNoP, mPart, mIt, srcW, mEnum, gN, gT, gsC, gsN, mRetN, mBrk, PyData.isTuple, dLen, dLe, ltD, ilt_eq, h, h', h2, h2']
    · have h2' : hi < (xs.length : Int) := by omega
      simp [b_is_tuple_of, env0, mRet, mSeq, mSet, mDo, mNext, mNever, mIfS, mAsg, mUnp, mPar, mPar3, mBin, mIf, mBool, mAnd, mOr, mNot, mAndV, mOrV, mNotV, mVar, getV, mTup, mFr, mNew, mDisp, mCons, mNil, mC, mNeg, mFn, mCall, rds, rd, datas, datW, dIx, ixD, outW, mIsa, mChain, mSl, mNoP, mPart, mIt, srcW, mEnum, gN, gT, gsC, gsN, mRetN, mBrk, PyData.isTuple, dLen, dLe, ltD, ilt_eq, h, h', h2, h2']
  · have h' : (xs.length : Int) < lo := by omega
    simp [b_is_tuple_of, env0, mRet, mSeq, mSet, mDo, mNext, mNever, mIfS, mAsg, mUnp, mPar, mPar3, mBin, mIf, mBool, mAnd, mOr, mNot, mAndV, mOrV, mNotV, mVar, getV, mTup, mFr, mNew, mDisp, mCons, mNil, mC, mNeg, mFn, mCall, rds, rd, datas, datW, dIx, ixD, outW, mIsa, mChain, mSl, mNoP, mPart, mIt, srcW, mEnum, gN, gT, gsC, gsN, mRetN, mBrk, PyData.isTuple, dLen, dLe, ltD, ilt_eq, h, h']
end PL
set_option linter.all false
set_option maxRecDepth 100000
/-! P4: letters. -/
namespace PL
open PySem Ev LW Tr
theorem is_pair_s (n a b : Nat) (S : Sto) : f_is_pair [.d (.int (n : Nat)), .d (encP (a, b))] S = some (.d (.bool (decide (a < n ∧ b < n ∧ a < b))), S) := by
  unfold f_is_pair
  rw [fnM_at rfl]
  unfold encP
  have e1 : f_is_tuple_of [.d (.tuple [.int (a : Nat), .int (b : Nat)]), .d (.int 2), .d (.int 2)] S = some (.d (.bool true), S) := is_tuple_of_s _ _ _ _
  have w : ∀ x : Nat, f_is_whole [.d (.int (x : Nat)), .d (.int 0), .d (.int ((n : Nat) - 1))] S = some (.d (.bool (decide (x < n))), S) := fun x => by
    rw [is_whole_s]
    congr 4
    rw [decide_eq_decide]
    omega
  have ec : c_is_pair_1 [some (.d (.int (n : Nat))), some (.d (.tuple [.int (a : Nat), .int (b : Nat)])), none] S = some ([.bool (decide (a < n)), .bool (decide (b < n))], S) := by
    unfold c_is_pair_1
    rw [mLc_list [.int (a : Nat), .int (b : Nat)] (src := srcL [.int (a : Nat), .int (b : Nat)]) (n := 3) ?_ ?_ rfl ?_ (fun d => [some (.d (.int (n : Nat))), some (.d (.tuple [.int (a : Nat), .int (b : Nat)])), some (.d d)]) (fun _ => true) (fun d => match d with | .int x => .bool (decide (x < n)) | _ => .none) ?_ ?_ ?_]
    · simp
    · simp [env0, mRet, mSeq, mSet, mDo, mNext, mNever, mIfS, mAsg, mUnp, mPar, mPar3, mBin, mIf, mBool, mAnd, mOr, mNot, mAndV, mOrV, mNotV, mVar, getV, mTup, mFr, mNew, mDisp, mCons, mNil, mC, mNeg, mFn, mCall, rds, rd, datas, datW, dIx, ixD, outW, mIsa, mChain, mSl, mNoP, mPart, mIt, srcW, mEnum, gN, gT, gsC, gsN, mRetN, mBrk]
    · intro _ _; rfl
    · simp
    · intro d _; rfl
    · intro d _; rfl
    · intro d hd _
      simp only [List.mem_cons, List.not_mem_nil, or_false] at hd
      rcases hd with rfl | rfl <;> simp [env0, mRet, mSeq, mSet, mDo, mNext, mNever, mIfS, mAsg, mUnp, mPar, mPar3, mBin, mIf, mBool, mAnd, mOr, mNot, mAndV, mOrV, mNotV, mVar, getV, mTup, mFr, mNew, mDisp, mCons, mNil, mC, mNeg, mFn, mCall, rds, rd, datas, datW, dIx, ixD, outW, mIsa, mChain, mSl, mNoP, mPart, mIt, srcW, mEnum, gN, gT, gsC, gsN, mRetN, mBrk, dSub, w]
  by_cases h1 : a < n
  · by_cases h2 : b < n
    · by_cases h3 : a < b
      · simp [b_is_pair, env0, mRet, mSeq, mSet, mDo, mNext, mNever, mIfS, mAsg, mUnp, mPar, mPar3, mBin, mIf, mBool, mAnd, mOr, mNot, mAndV, mOrV, mNotV, mVar, getV, mTup, mFr, mNew, mDisp, mCons, mNil, mC, mNeg, mFn, mCall, rds, rd, datas, datW, dIx, ixD, outW, mIsa, mChain, mSl, mNoP, mPart, mIt, srcW, mEnum, gN, gT, gsC, gsN, mRetN, mBrk, e1, ec, h1, h2, h3, dAll, blsD, dLt, ltD, ilt_nat]
      · simp [b_is_pair, env0, mRet, mSeq, mSet, mDo, mNext, mNever, mIfS, mAsg, mUnp, mPar, mPar3, mBin, mIf, mBool, mAnd, mOr, mNot, mAndV, mOrV, mNotV, mVar, getV, mTup, mFr, mNew, mDisp, mCons, mNil, mC, mNeg, mFn, mCall, rds, rd, datas, datW, dIx, ixD, outW, mIsa, mChain, mSl, mNoP, mPart, mIt, srcW, mEnum, gN, gT, gsC, gsN, mRetN, mBrk, e1, ec, h1, h2, h3, dAll, blsD, dLt, ltD, ilt_nat]
    · simp [b_is_pair, env0, mRet, mSeq, mSet, mDo, mNext, mNever, mIfS, mAsg, mUnp, mPar, mPar3, mBin, mIf, mBool, mAnd, mOr, mNot, mAndV, mOrV, mNotV, mVar, getV, mTup, mFr, mNew, mDisp, mCons, mNil, mC, mNeg, mFn, mCall, rds, rd, datas, datW, dIx, ixD, outW, mIsa, mChain, mSl, mNoP, mPart, mIt, srcW, mEnum, gN, gT, gsC, gsN, mRetN, mBrk, e1, ec, h1, h2, dAll, blsD]
  · simp [b_is_pair, env0, mRet, mSeq, mSet, mDo, mNext, mNever, mIfS, mAsg, mUnp, mPar, mPar3, mBin, mIf, mBool, mAnd, mOr, mNot, mAndV, mOrV, mNotV, mVar, getV, mTup, mFr, mNew, mDisp, mCons, mNil, mC, mNeg, mFn, mCall, rds, rd, datas, datW, dIx, ixD, outW, mIsa, mChain, mSl, mNoP, mPart, mIt, srcW, mEnum, gN, gT, gsC, gsN, mRetN, mBrk, e1, ec, h1, dAll, blsD]
end PL
set_option linter.all false
set_option maxRecDepth 100000
/-! P5: letters, at last. -/
namespace PL
open PySem Ev LW Tr
structure OkG (g : Gr) : Prop where
  n1 : 1 ≤ g.n
  n8 : g.n ≤ 8
  pr : ∀ p ∈ g.ps, p.1 < p.2 ∧ p.2 < g.n
  srt : g.ps.Pairwise fun p q => p.1 < q.1 ∨ (p.1 = q.1 ∧ p.2 < q.2)
  len : g.ps.length ≤ 64
theorem blsD_map {α : Type} (q : α → Bool) : ∀ l : List α, blsD (l.map fun x => .bool (q x)) = some (l.map q)
  | [] => rfl
  | x :: l => by
    rw [List.map_cons, List.map_cons]
    unfold blsD
    rw [blsD_map q l]
    rfl
theorem all_map {α : Type} (q : α → Bool) (l : List α) : dAll [.list (l.map fun x => .bool (q x))] = some (.bool (l.all q)) := by
  show Option.map _ (blsD _) = _
  rw [blsD_map]
  simp [List.all_map]
theorem any_map {α : Type} (q : α → Bool) (l : List α) : dAny [.list (l.map fun x => .bool (q x))] = some (.bool (l.any q)) := by
  show Option.map _ (blsD _) = _
  rw [blsD_map]
  simp [List.any_map]
theorem ltD_pair (a b c d : Nat) : ltD (.tuple [.int (a : Nat), .int (b : Nat)]) (.tuple [.int (c : Nat), .int (d : Nat)]) = some (decide (a < c ∨ (a = c ∧ b < d))) := by
  show some (if PyData.eqv (.int (a : Nat)) (.int (c : Nat)) then (if PyData.eqv (.int (b : Nat)) (.int (d : Nat)) then false else ilt b d) else ilt a c) = _
  rw [eqv_int, eqv_int, ilt_nat, ilt_nat]
  congr 1
  by_cases h1 : a = c
  · subst h1
    by_cases h2 : b = d
    · subst h2; simp
    · simp [h2]; omega
  · have : ¬ ((a : Int) = c) := by omega
    simp [h1, this]
theorem is_letters_s (g : Gr) (h : OkG g) (S : Sto) : f_is_letters [.d (encG g)] S = some (.d (.bool true), S) := by
  unfold f_is_letters
  rw [fnM_at rfl]
  unfold encG
  have t1 : f_is_tuple_of [.d (.tuple [.int (g.n : Nat), .tuple (g.ps.map encP)]), .d (.int 2), .d (.int 2)] S = some (.d (.bool true), S) := is_tuple_of_s _ _ _ _
  have t2 : f_is_whole [.d (.int (g.n : Nat)), .d (.int 1), .d (.int 8)] S = some (.d (.bool true), S) := by
    rw [is_whole_s]
    have := h.n1
    have := h.n8
    rw [decide_eq_true (by omega)]
  have t3 : f_is_tuple_of [.d (.tuple (g.ps.map encP)), .d (.int 0), .d (.int 64)] S = some (.d (.bool true), S) := by
    rw [is_tuple_of_s]
    have := h.len
    rw [decide_eq_true (by rw [List.length_map]; omega)]
  have hl : g.ps.length < 1000000 := by have := h.len; omega
  have c1 : c_is_letters_1 [some (.d (.tuple [.int (g.n : Nat), .tuple (g.ps.map encP)])), none, none] S = some (g.ps.map fun _ => .bool true, S) := by
    unfold c_is_letters_1
    rw [mLc_map (g.ps.map encP) (src := srcL (g.ps.map encP)) (n := g.ps.length + 1) ?_ ?_ ?_ ?_ (fun d => [some (.d (.tuple [.int (g.n : Nat), .tuple (g.ps.map encP)])), some (.d d), none]) (fun _ => .bool true) ?_ ?_]
    · simp
    · simp [env0, mRet, mSeq, mSet, mDo, mNext, mNever, mIfS, mAsg, mUnp, mPar, mPar3, mBin, mIf, mBool, mAnd, mOr, mNot, mAndV, mOrV, mNotV, mVar, getV, mTup, mFr, mNew, mDisp, mCons, mNil, mC, mNeg, mFn, mCall, rds, rd, datas, datW, dIx, ixD, outW, mIsa, mChain, mSl, mNoP, mPart, mIt, srcW, mEnum, gN, gT, gsC, gsN, mRetN, mBrk]
    · intro _ _; rfl
    · simp
    · simpa using hl
    · intro d _; rfl
    · intro d hd
      obtain ⟨p, hp, rfl⟩ := List.mem_map.mp hd
      have := h.pr p hp
      have e := is_pair_s g.n p.1 p.2 S
      rw [decide_eq_true (by omega)] at e
      simp [env0, mRet, mSeq, mSet, mDo, mNext, mNever, mIfS, mAsg, mUnp, mPar, mPar3, mBin, mIf, mBool, mAnd, mOr, mNot, mAndV, mOrV, mNotV, mVar, getV, mTup, mFr, mNew, mDisp, mCons, mNil, mC, mNeg, mFn, mCall, rds, rd, datas, datW, dIx, ixD, outW, mIsa, mChain, mSl, mNoP, mPart, mIt, srcW, mEnum, gN, gT, gsC, gsN, mRetN, mBrk, e]
  have c2 : c_is_letters_2 [some (.d (.tuple [.int (g.n : Nat), .tuple (g.ps.map encP)])), none, none] S = some ((List.range (g.ps.length - 1)).map fun _ => .bool true, S) := by
    unfold c_is_letters_2
    rw [mLc_map (rgL 0 (g.ps.length - 1)) (src := srcR 0 (g.ps.length - 1)) (n := g.ps.length - 1 + 1) ?_ ?_ ?_ ?_ (fun d => [some (.d (.tuple [.int (g.n : Nat), .tuple (g.ps.map encP)])), none, some (.d d)]) (fun _ => .bool true) ?_ ?_]
    · simp [rgL]
    · have : rgOk ((g.ps.length : Int) - 1) = true := by
        unfold rgOk
        rw [Nat.blt_eq]
        omega
      have e : ((g.ps.length : Int) - 1).toNat = g.ps.length - 1 := by omega
      simp [env0, mRet, mSeq, mSet, mDo, mNext, mNever, mIfS, mAsg, mUnp, mPar, mPar3, mBin, mIf, mBool, mAnd, mOr, mNot, mAndV, mOrV, mNotV, mVar, getV, mTup, mFr, mNew, mDisp, mCons, mNil, mC, mNeg, mFn, mCall, rds, rd, datas, datW, dIx, ixD, outW, mIsa, mChain, mSl, mNoP, mPart, mIt, srcW, mEnum, gN, gT, gsC, gsN, mRetN, mBrk, mRg1, dLen, dSub, this, e]
    · intro i S; exact srcR_L _ _ i S
    · simp [rgL]
    · simp [rgL]; omega
    · intro d _; rfl
    · intro d hd
      obtain ⟨i, hi, rfl⟩ := List.mem_map.mp hd
      have hi := List.mem_range.mp hi
      have i1 : i < g.ps.length := by omega
      have i2 : i + 1 < g.ps.length := by omega
      have lt := List.pairwise_iff_getElem.mp h.srt i (i + 1) i1 i2 (by omega)
      have e1 : g.ps[i]? = some g.ps[i] := List.getElem?_eq_getElem i1
      have e2 : g.ps[i + 1]? = some g.ps[i + 1] := List.getElem?_eq_getElem i2
      have e3 : ltD (encP g.ps[i]) (encP g.ps[i + 1]) = some true := by
        unfold encP
        rw [ltD_pair, decide_eq_true lt]
      have e4 : dLt (encP g.ps[i]) (encP g.ps[i + 1]) = some (.bool true) := by unfold dLt; rw [e3]; rfl
      simp [env0, mRet, mSeq, mSet, mDo, mNext, mNever, mIfS, mAsg, mUnp, mPar, mPar3, mBin, mIf, mBool, mAnd, mOr, mNot, mAndV, mOrV, mNotV, mVar, getV, mTup, mFr, mNew, mDisp, mCons, mNil, mC, mNeg, mFn, mCall, rds, rd, datas, datW, dIx, outW, mIsa, mChain, mSl, mNoP, mPart, mIt, srcW, mEnum, gN, gT, gsC, gsN, mRetN, mBrk, ixD_nat, ixD_succ, ixD_0, ixD_1, dAdd, e1, e2, e4]
  simp [b_is_letters, env0, mRet, mSeq, mSet, mDo, mNext, mNever, mIfS, mAsg, mUnp, mPar, mPar3, mBin, mIf, mBool, mAnd, mOr, mNot, mAndV, mOrV, mNotV, mVar, getV, mTup, mFr, mNew, mDisp, mCons, mNil, mC, mNeg, mFn, mCall, rds, rd, datas, datW, dIx, ixD, outW, mIsa, mChain, mSl, mNoP, mPart, mIt, srcW, mEnum, gN, gT, gsC, gsN, mRetN, mBrk, t1, t2, t3, c1, c2, dMul, all_map, show isSmall 8 = true from rfl]
theorem need_letters_s (g : Gr) (h : OkG g) (S : Sto) : f_need_letters [.d (encG g)] S = some (.d .none, S) := by
  unfold f_need_letters
  rw [fnM_at rfl]
  simp [b_need_letters, env0, mRet, mSeq, mSet, mDo, mNext, mNever, mIfS, mAsg, mUnp, mPar, mPar3, mBin, mIf, mBool, mAnd, mOr, mNot, mAndV, mOrV, mNotV, mVar, getV, mTup, mFr, mNew, mDisp, mCons, mNil, mC, mNeg, mFn, mCall, rds, rd, datas, datW, dIx, ixD, outW, mIsa, mChain, mSl, mNoP, mPart, mIt, srcW, mEnum, gN, gT, gsC, gsN, mRetN, mBrk, is_letters_s g h]
end PL
set_option linter.all false
set_option maxRecDepth 100000
/-! P6: the first places, the least word. -/
namespace PL
open PySem Ev LW Tr
theorem cut_to {α : Type} (xs : List α) (i : Nat) (h : i ≤ xs.length) : cutD xs none (some (i : Int)) = xs.take i := by
  unfold cutD
  have e1 : HT.sIx xs.length 0 none = 0 := rfl
  have e2 : HT.sIx xs.length xs.length (some (i : Int)) = i := by
    show (if (i : Int) < 0 then ((i : Int) + (xs.length : Int)).toNat else min (i : Int).toNat xs.length) = i
    rw [if_neg (by omega)]
    omega
  rw [e1, e2]
  simp
theorem cut_from {α : Type} (xs : List α) (i : Nat) (h : i ≤ xs.length) : cutD xs (some (i : Int)) none = xs.drop i := by
  unfold cutD
  have e1 : HT.sIx xs.length 0 (some (i : Int)) = i := by
    show (if (i : Int) < 0 then ((i : Int) + (xs.length : Int)).toNat else min (i : Int).toNat xs.length) = i
    rw [if_neg (by omega)]
    omega
  have e2 : HT.sIx xs.length xs.length none = xs.length := rfl
  rw [e1, e2]
  exact List.take_of_length_le (by simp)
/-- a word as a tuple, as a list -/
def sq (t : Bool) (w : List Nat) : PyData := if t then encT w else encL w
theorem wI_app (w v : List Nat) : wI (w ++ v) = wI w ++ wI v := List.map_append
theorem wI_one (a : Nat) : wI [a] = [.int (a : Nat)] := rfl
theorem wI_take (w : List Nat) (i : Nat) : (wI w).take i = wI (w.take i) := by unfold wI; rw [List.map_take]
theorem wI_drop (w : List Nat) (i : Nat) : (wI w).drop i = wI (w.drop i) := by unfold wI; rw [List.map_drop]
theorem wI_len (w : List Nat) : (wI w).length = w.length := by unfold wI; rw [List.length_map]
theorem wI_get (w : List Nat) (i : Nat) : (wI w)[i]? = w[i]?.map fun a => .int (a : Nat) := by unfold wI; rw [List.getElem?_map]
theorem sl_to (t : Bool) (w : List Nat) (i : Nat) (h : i ≤ w.length) : dSl (sq t w) none (some (i : Int)) = some (sq t (w.take i)) := by
  cases t
  · show some (PyData.list (cutD (wI w) none (some (i : Int)))) = some (PyData.list (wI (w.take i)))
    rw [cut_to _ _ (by rw [wI_len]; exact h), wI_take]
  · show some (PyData.tuple (cutD (wI w) none (some (i : Int)))) = some (PyData.tuple (wI (w.take i)))
    rw [cut_to _ _ (by rw [wI_len]; exact h), wI_take]
theorem sl_from (t : Bool) (w : List Nat) (i : Nat) (h : i ≤ w.length) : dSl (sq t w) (some (i : Int)) none = some (sq t (w.drop i)) := by
  cases t
  · show some (PyData.list (cutD (wI w) (some (i : Int)) none)) = some (PyData.list (wI (w.drop i)))
    rw [cut_from _ _ (by rw [wI_len]; exact h), wI_drop]
  · show some (PyData.tuple (cutD (wI w) (some (i : Int)) none)) = some (PyData.tuple (wI (w.drop i)))
    rw [cut_from _ _ (by rw [wI_len]; exact h), wI_drop]
theorem it_sq (S : Sto) (t : Bool) (w : List Nat) : ∃ b, srcW S (.d (sq t w)) = some (b, srcL (wI w), w.length + 1) := by
  cases t
  · exact ⟨false, by show some (false, srcL (wI w), (wI w).length + 1) = _; rw [wI_len]⟩
  · exact ⟨true, by show some (true, srcL (wI w), (wI w).length + 1) = _; rw [wI_len]⟩
theorem len_sq (t : Bool) (w : List Nat) : dLen [sq t w] = some (.int (w.length : Nat)) := by
  cases t
  · show some (PyData.int ((wI w).length : Nat)) = _; rw [wI_len]
  · show some (PyData.int ((wI w).length : Nat)) = _; rw [wI_len]
theorem ix_sq (t : Bool) (w : List Nat) (i : Nat) : dIx (sq t w) (.int (i : Nat)) = w[i]?.map fun a => .int (a : Nat) := by
  cases t
  · show ixD (wI w) (i : Int) = _; rw [ixD_nat, wI_get]
  · show ixD (wI w) (i : Int) = _; rw [ixD_nat, wI_get]
/-- all before it are free with it -/
def isFirst (g : Gr) (w : List Nat) (i : Nat) : Bool := (w.take i).all fun own => frB g (w.getD i 0) own
def fp (g : Gr) (w : List Nat) : List Nat := (List.range w.length).filter (isFirst g w)
theorem c_first_places_s (g : Gr) (t : Bool) (w : List Nat) (x y z : Option Wv) (i a : Nat) (S : Sto) (hi : i ≤ w.length) (hl : w.length < 1000000) :
    c_first_places_1 [some (.d (encG g)), some (.d (sq t w)), x, some (.d (.int (i : Nat))), some (.d (.int (a : Nat))), z] S = some ((w.take i).map fun own => .bool (frB g a own), S) := by
  unfold c_first_places_1
  obtain ⟨b, hb⟩ := it_sq S t (w.take i)
  rw [mLc_map (wI (w.take i)) (src := srcL (wI (w.take i))) (n := (w.take i).length + 1) ?_ ?_ ?_ ?_ (fun d => [some (.d (encG g)), some (.d (sq t w)), x, some (.d (.int (i : Nat))), some (.d (.int (a : Nat))), some (.d d)]) (fun d => match d with | .int n => .bool (frB g a n.toNat) | _ => .none) ?_ ?_]
  · unfold wI
    rw [List.map_map]
    rfl
  · unfold mIt mSl mVar getV mNoP mPart
    simp [rd, sl_to t w i hi, hb]
  · intro _ _; rfl
  · rw [wI_len]
  · rw [wI_len, List.length_take]; omega
  · intro d _; rfl
  · intro d hd
    obtain ⟨c, _, rfl⟩ := List.mem_map.mp hd
    simp [mFn, mCons, mNil, mVar, getV, is_free_s]
theorem first_places_s (g : Gr) (t : Bool) (w : List Nat) (hl : w.length < 1000000) (S : Sto) : f_first_places [.d (encG g), .d (sq t w)] S = some (.d (encL (fp g w)), S) := by
  unfold f_first_places
  rw [fnM_at rfl]
  have hloop : ∃ ρ' S', l_first_places_1 [some (.d (encG g)), some (.d (sq t w)), some (.r S.length), none, none, none] (S ++ [.lst []]) = some (.nx, ρ', S') ∧ (∃ x y, ρ' = [some (.d (encG g)), some (.d (sq t w)), some (.r S.length), x, y, none] ∧ S' = S ++ [.lst (wI ((List.range w.length).filter (isFirst g w)))]) := by
    unfold l_first_places_1
    obtain ⟨b, hb⟩ := it_sq (S ++ [.lst []]) t w
    have := mFor_inv (mi := mEnum (mVar 1)) (f := gT (gsC (gN 3) (gsC (gN 4) gsN))) (b := l_first_places_1b) (ρ := [some (.d (encG g)), some (.d (sq t w)), some (.r S.length), none, none, none]) (S := S ++ [.lst []]) (enL (wI w)) (src := srcE (srcL (wI w))) (n := w.length + 1) ?_ ?_ ?_
      (fun i ρ S' => ∃ x y, ρ = [some (.d (encG g)), some (.d (sq t w)), some (.r S.length), x, y, none] ∧ S' = S ++ [.lst (wI ((List.range i).filter (isFirst g w)))]) ⟨none, none, rfl, rfl⟩ ?_
    · simpa [enL, wI_len] using this
    · unfold mEnum mVar getV
      simp [hb]
    · intro i S; exact srcE_L _ i S
    · simp [enL, wI_len]
    · rintro i hi ρ S' ⟨x, y, rfl, rfl⟩
      have hi' : i < w.length := by simpa [enL, wI_len] using hi
      have ed : (enL (wI w))[i] = .tuple [.int (i : Nat), .int (w[i] : Nat)] := by simp [enL, wI]
      refine ⟨[some (.d (encG g)), some (.d (sq t w)), some (.r S.length), some (.d (.int (i : Nat))), some (.d (.int (w[i] : Nat))), none], _, _, by rw [ed]; rfl, ?_, some (.d (.int (i : Nat))), some (.d (.int (w[i] : Nat))), rfl, rfl⟩
      unfold l_first_places_1b
      have ha := all_map (fun own => frB g w[i] own) (w.take i)
      have eI : isFirst g w i = (w.take i).all fun own => frB g w[i] own := by
        unfold isFirst
        rw [List.getD_eq_getElem?_getD, List.getElem?_eq_getElem hi']
        rfl
      rw [List.range_succ, List.filter_append]
      cases hq0 : isFirst g w i with
      | true =>
        have hq := eI.symm.trans hq0
        have ef : List.filter (isFirst g w) [i] = [i] := by simp [hq0]
        have fe : few ((wI ((List.range i).filter (isFirst g w))).length) = true := few_le (by rw [wI_len]; have := List.length_filter_le (isFirst g w) (List.range i); rw [List.length_range] at this; omega)
        rw [ef]
        simp [mIfS, mBool, mCall, mCons, mNil, mFr, c_first_places_s g t w _ none _ i w[i] _ (Nat.le_of_lt hi') hl, rds, rd, ha, hq, mDo, mApp, mVar, getV, st_get0, st_set0, datW, fe, wI_app, wI_one, -List.map_take]
      | false =>
        have hq := eI.symm.trans hq0
        have ef : List.filter (isFirst g w) [i] = [] := by simp [hq0]
        rw [ef]
        simp [mIfS, mBool, mCall, mCons, mNil, mFr, c_first_places_s g t w _ none _ i w[i] _ (Nat.le_of_lt hi') hl, rds, rd, ha, hq, mNext, -List.map_take]
  obtain ⟨ρ', S', h1, x, y, rfl, rfl⟩ := hloop
  simp [b_first_places, env0, mRet, mSeq, mSet, mDo, mNext, mNever, mIfS, mAsg, mUnp, mPar, mPar3, mBin, mIf, mBool, mAnd, mOr, mNot, mAndV, mOrV, mNotV, mVar, getV, mTup, mFr, mNew, mDisp, mCons, mNil, mC, mNeg, mFn, mCall, rds, rd, datas, datW, dIx, ixD, outW, mIsa, mChain, mSl, mNoP, mPart, mIt, srcW, mEnum, gN, gT, gsC, gsN, mRetN, mBrk, h1, fp, encL, show few 0 = true from rfl]
end PL
set_option linter.all false
set_option maxRecDepth 100000
/-! P7: the least word is the least word. -/
namespace PL
open PySem Ev LW Tr
theorem frB_symm (g : Gr) (a b : Nat) : frB g a b = frB g b a := by
  unfold frB
  by_cases h : a < b
  · rw [if_pos h, if_neg (by omega)]
  · by_cases h2 : b < a
    · rw [if_neg h, if_pos h2]
    · have : a = b := by omega
      subst this
      rfl
theorem frB_irr {g : Gr} (h : OkG g) (a : Nat) : frB g a a = false := by
  unfold frB
  rw [if_neg (by omega)]
  refine Bool.eq_false_iff.mpr fun z => ?_
  have := h.pr (a, a) (by simpa using z)
  exact Nat.lt_irrefl _ this.1
def fr (g : Gr) (h : OkG g) : Fr := ⟨frB g, frB_symm g, frB_irr h⟩
section
variable {g : Gr} (h : OkG g)
theorem isFirst_take : ∀ {w : List Nat} {i : Nat} (hi : i < w.length), isFirst g w i = true → take (fr g h) w[i] w = some (w.eraseIdx i)
  | x :: w, 0, hi, _ => by
    unfold take
    rw [if_pos (by simp)]
    rfl
  | x :: w, i + 1, hi, hf => by
    have hi' : i < w.length := by simpa using hi
    have e0 : (x :: w).getD (i + 1) 0 = w[i] := by
      rw [List.getD_eq_getElem?_getD, List.getElem?_cons_succ, List.getElem?_eq_getElem hi']
      rfl
    unfold isFirst at hf
    rw [e0, List.take_succ_cons, List.all_cons, Bool.and_eq_true] at hf
    have e1 : w.getD i 0 = w[i] := by rw [List.getD_eq_getElem?_getD, List.getElem?_eq_getElem hi']; rfl
    have ih := isFirst_take (w := w) (i := i) hi' (by unfold isFirst; rw [e1]; exact hf.2)
    show take (fr g h) w[i] (x :: w) = some (x :: w.eraseIdx i)
    unfold take
    have nx : ¬ (x == w[i]) = true := fun z => by
      have z : x = w[i] := by simpa using z
      have := hf.1
      rw [← z, frB_irr h] at this
      cases this
    rw [if_neg nx, if_pos (show (fr g h).free w[i] x = true from hf.1), ih]
    rfl
theorem take_isFirst : ∀ {w : List Nat} {a : Nat} {r : List Nat}, take (fr g h) a w = some r → ∃ i, ∃ hi : i < w.length, isFirst g w i = true ∧ w[i] = a
  | [], _, _, e => by cases e
  | x :: w, a, r, e => by
    unfold take at e
    split at e
    · rename_i hx
      exact ⟨0, by simp, by simp [isFirst], by simpa using hx⟩
    · split at e
      · rename_i hx hf
        simp only [Option.map_eq_some_iff] at e
        obtain ⟨r', e1, _⟩ := e
        obtain ⟨i, hi, h1, h2⟩ := take_isFirst e1
        refine ⟨i + 1, by simpa using hi, ?_, by simpa using h2⟩
        have e0 : (x :: w).getD (i + 1) 0 = w[i] := by
          rw [List.getD_eq_getElem?_getD, List.getElem?_cons_succ, List.getElem?_eq_getElem hi]
          rfl
        have e1 : w.getD i 0 = w[i] := by rw [List.getD_eq_getElem?_getD, List.getElem?_eq_getElem hi]; rfl
        unfold isFirst at h1 ⊢
        rw [e1] at h1
        rw [e0, List.take_succ_cons, List.all_cons, h1, Bool.and_true, h2]
        exact hf
      · cases e
end
/-! ### the least of some pairs -/
def plt (p q : Nat × Nat) : Bool := decide (p.1 < q.1 ∨ (p.1 = q.1 ∧ p.2 < q.2))
def pmin (p : Nat × Nat) (ps : List (Nat × Nat)) : Nat × Nat := ps.foldl (fun a y => if plt y a then y else a) p
theorem cmp_pair (p q : Nat × Nat) : cmpD (encP p) (encP q) = plt p q := by
  obtain ⟨a, b⟩ := p
  obtain ⟨c, d⟩ := q
  have := ltD_pair a b c d
  have e : ltD (encP (a, b)) (encP (c, d)) = some (cmpD (encP (a, b)) (encP (c, d))) := rfl
  exact Option.some.inj (e.symm.trans this)
theorem foldD_pair : ∀ (ps : List (Nat × Nat)) (p : Nat × Nat), foldD cmpD (encP p) (ps.map encP) = encP (pmin p ps)
  | [], _ => rfl
  | q :: ps, p => by
    show foldD cmpD (if cmpD (encP q) (encP p) then encP q else encP p) (ps.map encP) = encP (pmin (if plt q p then q else p) ps)
    rw [cmp_pair]
    split
    · exact foldD_pair ps q
    · exact foldD_pair ps p
theorem pmin_le : ∀ (ps : List (Nat × Nat)) (p : Nat × Nat), pmin p ps ∈ p :: ps ∧ ∀ q ∈ p :: ps, (pmin p ps).1 ≤ q.1
  | [], p => ⟨List.mem_cons_self, fun q hq => by rw [List.mem_singleton.mp hq]; exact Nat.le_refl _⟩
  | r :: ps, p => by
    show pmin (if plt r p then r else p) ps ∈ p :: r :: ps ∧ ∀ q ∈ p :: r :: ps, (pmin (if plt r p then r else p) ps).1 ≤ q.1
    split
    · rename_i hp
      obtain ⟨h1, h2⟩ := pmin_le ps r
      have hp : r.1 < p.1 ∨ (r.1 = p.1 ∧ r.2 < p.2) := by simpa [plt] using hp
      refine ⟨List.mem_cons_of_mem _ h1, fun q hq => ?_⟩
      rcases List.mem_cons.mp hq with rfl | hq
      · have := h2 r List.mem_cons_self
        omega
      · exact h2 q hq
    · rename_i hp
      obtain ⟨h1, h2⟩ := pmin_le ps p
      have hp : ¬ (r.1 < p.1 ∨ (r.1 = p.1 ∧ r.2 < p.2)) := by simpa [plt] using hp
      refine ⟨?_, fun q hq => ?_⟩
      · rcases List.mem_cons.mp h1 with e | m
        · rw [e]; exact List.mem_cons_self
        · exact List.mem_cons_of_mem _ (List.mem_cons_of_mem _ m)
      · rcases List.mem_cons.mp hq with rfl | hq
        · exact h2 _ List.mem_cons_self
        · rcases List.mem_cons.mp hq with rfl | hq
          · have := h2 p List.mem_cons_self
            omega
          · exact h2 q (List.mem_cons_of_mem _ hq)
theorem homog_pairs (p : Nat × Nat) (ps : List (Nat × Nat)) : homog (encP p :: ps.map encP) = true := by
  unfold homog
  simp only [List.all_cons, List.all_map, Bool.and_eq_true, List.all_eq_true]
  exact ⟨⟨rfl, rfl⟩, fun q _ => rfl⟩
end PL
set_option linter.all false
set_option maxRecDepth 100000
/-! P8: least. -/
namespace PL
open PySem Ev LW Tr
theorem fp_mem {g : Gr} {w : List Nat} {i : Nat} : i ∈ fp g w ↔ i < w.length ∧ isFirst g w i = true := by
  unfold fp
  rw [List.mem_filter, List.mem_range]
theorem pick {g : Gr} (h : OkG g) {w : List Nat} (hw : w ≠ []) : ∃ p0 ps, (fp g w).map (fun i => (w.getD i 0, i)) = p0 :: ps ∧ ∃ hp : (pmin p0 ps).2 < w.length, (pmin p0 ps).1 = w[(pmin p0 ps).2] ∧
    lfirst (fr g h) w = some w[(pmin p0 ps).2] ∧ take (fr g h) w[(pmin p0 ps).2] w = some (w.eraseIdx (pmin p0 ps).2) := by
  obtain ⟨a, r, h1, h2, h3⟩ := lfirst_some (F := fr g h) hw
  obtain ⟨i, hi, f1, f2⟩ := take_isFirst h h2
  have mi : (w.getD i 0, i) ∈ (fp g w).map (fun i => (w.getD i 0, i)) := List.mem_map.mpr ⟨i, fp_mem.mpr ⟨hi, f1⟩, rfl⟩
  cases q : (fp g w).map (fun i => (w.getD i 0, i)) with
  | nil => rw [q] at mi; cases mi
  | cons p0 ps =>
    obtain ⟨m1, m2⟩ := pmin_le ps p0
    rw [← q] at m1
    obtain ⟨j, hj, ej⟩ := List.mem_map.mp m1
    obtain ⟨j1, j2⟩ := fp_mem.mp hj
    have e2 : (pmin p0 ps).2 = j := by rw [← ej]
    have e1 : (pmin p0 ps).1 = w[j] := by
      rw [← ej]
      show w.getD j 0 = _
      rw [List.getD_eq_getElem?_getD, List.getElem?_eq_getElem j1]
      rfl
    have tj := isFirst_take h j1 j2
    have le1 : a ≤ w[j] := h3 _ (by rw [tj]; rfl)
    have le2 : w[j] ≤ a := by
      have := m2 (w.getD i 0, i) (by rw [← q]; exact mi)
      rw [e1] at this
      have e3 : w.getD i 0 = a := by rw [List.getD_eq_getElem?_getD, List.getElem?_eq_getElem hi]; exact f2
      rw [e3] at this
      exact this
    have ea : a = w[j] := Nat.le_antisymm le1 le2
    refine ⟨p0, ps, rfl, ?_⟩
    revert e2
    generalize (pmin p0 ps).2 = j'
    rintro rfl
    exact ⟨j1, e1, by rw [h1, ea], tj⟩
theorem c_least_s (g : Gr) (w : List Nat) (hl : w.length < 1000000) (x1 x3 x4 x5 : Option Wv) (S : Sto) : c_least_1 [some (.d (encG g)), x1, some (.d (encL w)), x3, x4, x5, none] S = some ((fp g w).map fun i => encP (w.getD i 0, i), S) := by
  unfold c_least_1
  have hf := first_places_s g false w hl S
  have ll : (fp g w).length ≤ w.length := by
    unfold fp
    have := List.length_filter_le (isFirst g w) (List.range w.length)
    rwa [List.length_range] at this
  rw [mLc_map (wI (fp g w)) (src := srcL (wI (fp g w))) (n := (fp g w).length + 1) ?_ ?_ ?_ ?_ (fun d => [some (.d (encG g)), x1, some (.d (encL w)), x3, x4, x5, some (.d d)]) (fun d => match d with | .int n => encP (w.getD n.toNat 0, n.toNat) | _ => .none) ?_ ?_]
  · unfold wI
    rw [List.map_map]
    rfl
  · obtain ⟨b, hb⟩ := it_sq S false (fp g w)
    have hb : srcW S (.d (encL (fp g w))) = some (b, srcL (wI (fp g w)), (fp g w).length + 1) := hb
    have hf : f_first_places [.d (encG g), .d (encL w)] S = some (.d (encL (fp g w)), S) := hf
    simp [mIt, mFn, mCons, mNil, mVar, getV, hf, hb]
  · intro _ _; rfl
  · rw [wI_len]
  · rw [wI_len]; omega
  · intro d _; rfl
  · intro d hd
    obtain ⟨i, hi, rfl⟩ := List.mem_map.mp hd
    obtain ⟨i1, _⟩ := fp_mem.mp hi
    have e1 := ix_sq false w i
    have e1 : dIx (encL w) (.int (i : Nat)) = w[i]?.map fun a => .int (a : Nat) := e1
    rw [List.getElem?_eq_getElem i1] at e1
    have e2 : w.getD i 0 = w[i] := by rw [List.getD_eq_getElem?_getD, List.getElem?_eq_getElem i1]; rfl
    simp [mTup, mCons, mNil, mBin, mVar, getV, rd, e1, datas, encP, e2, i1, show few 2 = true from rfl]
theorem least_s (g : Gr) (h : OkG g) (t : Bool) (w : List Nat) (hl : w.length < 100000) (S : Sto) : f_least [.d (encG g), .d (sq t w)] S = some (.d (encT (lst (fr g h) w)), S) := by
  unfold f_least
  rw [fnM_at rfl]
  have hloop : ∃ ρ' S', l_least_1 [some (.d (encG g)), some (.d (sq t w)), some (.d (encL w)), some (.r S.length), none, none, none] (S ++ [.lst []]) = some (.nx, ρ', S') ∧
      (∃ left acc x4 x5, ρ' = [some (.d (encG g)), some (.d (sq t w)), some (.d (encL left)), some (.r S.length), x4, x5, none] ∧ S' = S ++ [.lst (wI acc)] ∧ left.length + w.length = w.length ∧ acc ++ least (fr g h) left.length left = lst (fr g h) w) := by
    unfold l_least_1
    have hr : rgOk (w.length : Int) = true := by unfold rgOk; rw [Nat.blt_eq]; omega
    have := mFor_inv (mi := mRg1 (mCons (mCall dLen (mCons (mVar 1) mNil)) mNil)) (f := gN 4) (b := l_least_1b) (ρ := [some (.d (encG g)), some (.d (sq t w)), some (.d (encL w)), some (.r S.length), none, none, none]) (S := S ++ [.lst []]) (rgL 0 w.length) (src := srcR 0 w.length) (n := w.length + 1) ?_ ?_ ?_
      (fun i ρ S' => ∃ left acc x4 x5, ρ = [some (.d (encG g)), some (.d (sq t w)), some (.d (encL left)), some (.r S.length), x4, x5, none] ∧ S' = S ++ [.lst (wI acc)] ∧ left.length + i = w.length ∧ acc ++ least (fr g h) left.length left = lst (fr g h) w) ⟨w, [], none, none, rfl, rfl, rfl, rfl⟩ ?_
    · simpa [rgL] using this
    · simp [mRg1, mCons, mNil, mCall, mVar, getV, rds, rd, len_sq, hr]
    · intro i S; exact srcR_L _ _ i S
    · simp [rgL]
    · rintro i hi ρ S' ⟨left, acc, x4, x5, rfl, rfl, hn, he⟩
      have hi' : i < w.length := by simpa [rgL] using hi
      have hne : left ≠ [] := by
        rintro rfl
        simp at hn
        omega
      obtain ⟨p0, ps, e0, hp, e1, e2, e3⟩ := pick h hne
      generalize hpl : (pmin p0 ps).2 = pl at hp e1 e2 e3
      have ed : (rgL 0 w.length)[i] = .int (i : Nat) := by simp [rgL]
      have cl := c_least_s g left (by omega) (some (.d (sq t w))) (some (.r S.length)) (some (.d (.int (i : Nat)))) x5 (S ++ [.lst (wI acc)])
      have cm : (fp g left).map (fun i => encP (left.getD i 0, i)) = encP p0 :: ps.map encP := by
        have := congrArg (List.map encP) e0
        rw [List.map_map, List.map_cons] at this
        exact this
      rw [cm] at cl
      have mn : dMinL [.list (encP p0 :: ps.map encP)] = some (.tuple [.int (left[pl] : Nat), .int (pl : Nat)]) := by
        show (if homog (encP p0 :: ps.map encP) then some (foldD cmpD (encP p0) (ps.map encP)) else none) = _
        rw [if_pos (homog_pairs p0 ps), foldD_pair]
        unfold encP
        rw [e1, hpl]
      have ix1 : dIx (encL left) (.int (pl : Nat)) = some (.int (left[pl] : Nat)) := by
        have := ix_sq false left pl
        rw [List.getElem?_eq_getElem hp] at this
        exact this
      have s1 : dSl (encL left) none (some (pl : Int)) = some (encL (left.take pl)) := sl_to false left pl (by omega)
      have s2 : dSl (encL left) (some ((pl : Int) + 1)) none = some (encL (left.drop (pl + 1))) := sl_from false left (pl + 1) (by omega)
      have ad : dAdd (encL (left.take pl)) (encL (left.drop (pl + 1))) = some (encL (left.eraseIdx pl)) := by
        show (if few ((wI (left.take pl)).length + (wI (left.drop (pl + 1))).length) then some (PyData.list (wI (left.take pl) ++ wI (left.drop (pl + 1)))) else none) = _
        rw [if_pos (few_le (by rw [wI_len, wI_len, List.length_take, List.length_drop]; omega)), ← wI_app, ← List.eraseIdx_eq_take_drop_succ]
        rfl
      have al : acc.length ≤ w.length := by
        have := congrArg List.length he
        have l1 : (least (fr g h) left.length left).length = left.length := lst_length left
        have l2 : (lst (fr g h) w).length = w.length := lst_length w
        rw [List.length_append] at this
        omega
      have fe : few (wI acc).length = true := few_le (by rw [wI_len]; omega)
      have i1 : dIx (.tuple [.int (left[pl] : Nat), .int (pl : Nat)]) (.int 1) = some (.int (pl : Nat)) := rfl
      have a1 : dAdd (.int (pl : Nat)) (.int 1) = some (.int ((pl : Int) + 1)) := rfl
      refine ⟨_, _, _, by rw [ed]; rfl, ?_, left.eraseIdx pl, acc ++ [left[pl]], some (.d (.int (i : Nat))), some (.d (.int (pl : Nat))), rfl, rfl, ?_, ?_⟩
      · unfold l_least_1b
        simp [mSeq, mSet, mBin, mCall, mCons, mNil, mFr, cl, rds, rd, mn, mC, i1, mDo, mApp, mVar, getV, st_get0, st_set0, datW, fe, ix1, wI_app, wI_one, mSl, mNoP, mPart, s1, s2, a1, ad]
      · rw [List.length_eraseIdx, if_pos hp]
        omega
      · have ln : left.length = (left.eraseIdx pl).length + 1 := by rw [List.length_eraseIdx, if_pos hp]; omega
        rw [ln] at he
        have : least (fr g h) ((left.eraseIdx pl).length + 1) left = left[pl] :: least (fr g h) (left.eraseIdx pl).length (left.eraseIdx pl) := by
          show (match lfirst (fr g h) left with
            | none => []
            | some a => match take (fr g h) a left with
              | none => []
              | some r => a :: least (fr g h) (left.eraseIdx pl).length r) = _
          rw [e2]
          simp only [e3]
        rw [this] at he
        rw [List.append_assoc]
        exact he
  obtain ⟨ρ', S', h1, left, acc, x4, x5, rfl, rfl, hn, he⟩ := hloop
  have l0 : left = [] := List.length_eq_zero_iff.mp (by omega)
  subst l0
  have he : acc = lst (fr g h) w := by simpa [least] using he
  have sqw : seqOf (sq t w) = some (wI w) := by cases t <;> rfl
  have h1 : l_least_1 [some (.d (encG g)), some (.d (sq t w)), some (.d (.list (wI w))), some (.r S.length), none, none, none] (S ++ [.lst []]) = some (.nx, [some (.d (encG g)), some (.d (sq t w)), some (.d (encL [])), some (.r S.length), x4, x5, none], S ++ [.lst (wI acc)]) := h1
  simp [b_least, env0, mRet, mSeq, mSet, mDo, mNext, mNever, mIfS, mAsg, mUnp, mPar, mPar3, mBin, mIf, mBool, mAnd, mOr, mNot, mAndV, mOrV, mNotV, mVar, getV, mTup, mFr, mNew, mDisp, mCons, mNil, mC, mNeg, mFn, mCall, rds, rd, datas, datW, dIx, ixD, outW, mIsa, mChain, mSl, mNoP, mPart, mIt, srcW, mEnum, gN, gT, gsC, gsN, mRetN, mBrk, mL1, sqw, h1, show few 0 = true from rfl, show few 2 = true from rfl, st_get0, dTuple, he, encT]
end PL
set_option linter.all false
set_option maxRecDepth 100000
/-! P9: words, piles, taken, behind. -/
namespace PL
open PySem Ev LW Tr
theorem is_word_of_s (g : Gr) (h : OkG g) (w : List Nat) (hl : w.length ≤ 60) (hw : ∀ a ∈ w, a < g.n) (S : Sto) : f_is_word_of [.d (encG g), .d (encT w)] S = some (.d (.bool true), S) := by
  unfold f_is_word_of
  rw [fnM_at rfl]
  have e1 : f_is_tuple_of [.d (encT w), .d (.int 0), .d (.int 60)] S = some (.d (.bool true), S) := by
    unfold encT
    rw [is_tuple_of_s, decide_eq_true (by rw [wI_len]; omega)]
  have ec : c_is_word_of_1 [some (.d (encG g)), some (.d (encT w)), none] S = some (w.map fun _ => .bool true, S) := by
    unfold c_is_word_of_1
    rw [mLc_map (wI w) (src := srcL (wI w)) (n := w.length + 1) ?_ ?_ ?_ ?_ (fun d => [some (.d (encG g)), some (.d (encT w)), some (.d d)]) (fun _ => .bool true) ?_ ?_]
    · simp [wI]
    · obtain ⟨b, hb⟩ := it_sq S true w
      have hb : srcW S (.d (encT w)) = some (b, srcL (wI w), w.length + 1) := hb
      simp [mIt, mVar, getV, hb]
    · intro _ _; rfl
    · rw [wI_len]
    · rw [wI_len]; omega
    · intro d _; rfl
    · intro d hd
      obtain ⟨a, ha, rfl⟩ := List.mem_map.mp hd
      have := hw a ha
      have e := is_whole_s (a : Nat) 0 ((g.n : Int) - 1) S
      rw [decide_eq_true (by omega)] at e
      simp [mFn, mCons, mNil, mVar, getV, mC, mBin, rd, dIx, ixD_0, encG, dSub, e]
  have em := all_map (fun _ : Nat => true) w
  simp [b_is_word_of, mRet, mAndV, mBool, mFn, mCons, mNil, mVar, getV, mC, env0, e1, mCall, mFr, ec, rds, rd, em, outW]
theorem need_word_s (g : Gr) (h : OkG g) (w : List Nat) (hl : w.length ≤ 60) (hw : ∀ a ∈ w, a < g.n) (S : Sto) : f_need_word [.d (encG g), .d (encT w)] S = some (.d .none, S) := by
  unfold f_need_word
  rw [fnM_at rfl]
  simp [b_need_word, env0, mRet, mSeq, mSet, mDo, mNext, mNever, mIfS, mAsg, mUnp, mPar, mPar3, mBin, mIf, mBool, mAnd, mOr, mNot, mAndV, mOrV, mNotV, mVar, getV, mTup, mFr, mNew, mDisp, mCons, mNil, mC, mNeg, mFn, mCall, rds, rd, datas, datW, dIx, ixD, outW, mIsa, mChain, mSl, mNoP, mPart, mIt, srcW, mEnum, gN, gT, gsC, gsN, mRetN, mBrk, is_word_of_s g h w hl hw]
theorem eqv_wI : ∀ w v : List Nat, PyData.eqvAll (wI w) (wI v) = decide (w = v)
  | [], [] => by simp [wI, PyData.eqvAll]
  | [], _ :: _ => by simp [wI, PyData.eqvAll]
  | _ :: _, [] => by simp [wI, PyData.eqvAll]
  | a :: w, b :: v => by
    show (PyData.eqv (.int (a : Nat)) (.int (b : Nat)) && PyData.eqvAll (wI w) (wI v)) = _
    rw [eqv_int, eqv_wI w v, Bool.eq_iff_iff]
    simp
    intro _
    omega
theorem eqv_T (w v : List Nat) : PyData.eqv (encT w) (encT v) = decide (w = v) := eqv_wI w v
theorem shal_wI (k : Nat) (w : List Nat) : (wI w).all (shal k) = true := by
  rw [List.all_eq_true]
  intro d hd
  obtain ⟨a, _, rfl⟩ := List.mem_map.mp hd
  cases k <;> rfl
theorem shal_T (k : Nat) (w : List Nat) : shal (k + 1) (encT w) = true := shal_wI k w
theorem dEq_T (w v : List Nat) : dEq (encT w) (encT v) = some (.bool (decide (w = v))) := by
  unfold dEq
  rw [shal_T 8, eqv_T]
  rfl
/-- a pile -/
structure Pile (g : Gr) (h : OkG g) (w : List Nat) : Prop where
  len : w.length ≤ 60
  lt : ∀ a ∈ w, a < g.n
  nf : Nf (fr g h) w
theorem is_pile_of_s (g : Gr) (h : OkG g) (w : List Nat) (hp : Pile g h w) (S : Sto) : f_is_pile_of [.d (encG g), .d (encT w)] S = some (.d (.bool true), S) := by
  unfold f_is_pile_of
  rw [fnM_at rfl]
  have e1 : f_least [.d (encG g), .d (encT w)] S = some (.d (encT (lst (fr g h) w)), S) := least_s g h true w (by have := hp.len; omega) S
  have e2 : lst (fr g h) w = w := hp.nf
  rw [e2] at e1
  simp [b_is_pile_of, env0, mRet, mSeq, mSet, mDo, mNext, mNever, mIfS, mAsg, mUnp, mPar, mPar3, mBin, mIf, mBool, mAnd, mOr, mNot, mAndV, mOrV, mNotV, mVar, getV, mTup, mFr, mNew, mDisp, mCons, mNil, mC, mNeg, mFn, mCall, rds, rd, datas, datW, dIx, ixD, outW, mIsa, mChain, mSl, mNoP, mPart, mIt, srcW, mEnum, gN, gT, gsC, gsN, mRetN, mBrk, is_word_of_s g h w hp.len hp.lt, e1, dEq_T]
theorem need_pile_s (g : Gr) (h : OkG g) (w : List Nat) (hp : Pile g h w) (S : Sto) : f_need_pile [.d (encG g), .d (encT w)] S = some (.d .none, S) := by
  unfold f_need_pile
  rw [fnM_at rfl]
  simp [b_need_pile, env0, mRet, mSeq, mSet, mDo, mNext, mNever, mIfS, mAsg, mUnp, mPar, mPar3, mBin, mIf, mBool, mAnd, mOr, mNot, mAndV, mOrV, mNotV, mVar, getV, mTup, mFr, mNew, mDisp, mCons, mNil, mC, mNeg, mFn, mCall, rds, rd, datas, datW, dIx, ixD, outW, mIsa, mChain, mSl, mNoP, mPart, mIt, srcW, mEnum, gN, gT, gsC, gsN, mRetN, mBrk, is_pile_of_s g h w hp]
theorem need_two_s (g : Gr) (h : OkG g) (w v : List Nat) (hp : Pile g h w) (hq : Pile g h v) (S : Sto) : f_need_two [.d (encG g), .d (encT w), .d (encT v)] S = some (.d .none, S) := by
  unfold f_need_two
  rw [fnM_at rfl]
  simp [b_need_two, env0, mRet, mSeq, mSet, mDo, mNext, mNever, mIfS, mAsg, mUnp, mPar, mPar3, mBin, mIf, mBool, mAnd, mOr, mNot, mAndV, mOrV, mNotV, mVar, getV, mTup, mFr, mNew, mDisp, mCons, mNil, mC, mNeg, mFn, mCall, rds, rd, datas, datW, dIx, ixD, outW, mIsa, mChain, mSl, mNoP, mPart, mIt, srcW, mEnum, gN, gT, gsC, gsN, mRetN, mBrk, need_letters_s g h, need_pile_s g h w hp, need_pile_s g h v hq]
theorem add_sq (t : Bool) (w v : List Nat) (hl : w.length + v.length ≤ 1000000) : dAdd (sq t w) (sq t v) = some (sq t (w ++ v)) := by
  cases t
  · show (if few ((wI w).length + (wI v).length) then some (PyData.list (wI w ++ wI v)) else none) = _
    rw [if_pos (few_le (by rw [wI_len, wI_len]; exact hl)), ← wI_app]
    rfl
  · show (if few ((wI w).length + (wI v).length) then some (PyData.tuple (wI w ++ wI v)) else none) = _
    rw [if_pos (few_le (by rw [wI_len, wI_len]; exact hl)), ← wI_app]
    rfl
/-- none, or a word -/
def optS (t : Bool) : Option (List Nat) → PyData
  | none => .none
  | some w => sq t w
theorem dEq_nat (a b : Nat) : dEq (.int (a : Nat)) (.int (b : Nat)) = some (.bool (decide (a = b))) := by
  show some (PyData.bool (PyData.eqv (.int (a : Nat)) (.int (b : Nat)))) = _
  rw [eqv_int]
  congr 2
  rw [decide_eq_decide]
  omega
theorem taken_s (g : Gr) (h : OkG g) (t : Bool) (a : Nat) (w : List Nat) (hl : w.length < 100000) (S : Sto) : f_taken [.d (encG g), .d (.int (a : Nat)), .d (sq t w)] S = some (.d (optS t (take (fr g h) a w)), S) := by
  unfold f_taken
  rw [fnM_at rfl]
  have hloop : ∃ fl ρ' S', l_taken_1 [some (.d (encG g)), some (.d (.int (a : Nat))), some (.d (sq t w)), none, none] S = some (fl, ρ', S') ∧
      ((fl = .nx ∧ S' = S ∧ take (fr g h) a w = none) ∨ ∃ u, fl = .rt u ∧ u = .d (optS t (take (fr g h) a w)) ∧ S' = S) := by
    unfold l_taken_1
    obtain ⟨b, hb⟩ := it_sq S t w
    have := mFor_ex (mi := mEnum (mVar 2)) (f := gT (gsC (gN 3) (gsC (gN 4) gsN))) (b := l_taken_1b) (ρ := [some (.d (encG g)), some (.d (.int (a : Nat))), some (.d (sq t w)), none, none]) (S := S) (enL (wI w)) (src := srcE (srcL (wI w))) (n := w.length + 1) ?_ ?_ ?_
      (fun i ρ S' => (∃ x y, ρ = [some (.d (encG g)), some (.d (.int (a : Nat))), some (.d (sq t w)), x, y]) ∧ S' = S ∧ take (fr g h) a w = (take (fr g h) a (w.drop i)).map (w.take i ++ ·))
      (fun u S' => u = .d (optS t (take (fr g h) a w)) ∧ S' = S) ⟨⟨none, none, rfl⟩, rfl, by simp⟩ ?_
    · obtain ⟨fl, ρ', S', h1, h2⟩ := this
      refine ⟨fl, ρ', S', h1, ?_⟩
      rcases h2 with ⟨rfl, _, h3, h4⟩ | h2
      · refine .inl ⟨rfl, h3, ?_⟩
        rw [h4, List.drop_eq_nil_of_le (by simp [enL, wI_len])]
        rfl
      · exact .inr h2
    · simp [mEnum, mVar, getV, hb]
    · intro i S; exact srcE_L _ i S
    · simp [enL, wI_len]
    · rintro i hi ρ S' ⟨⟨x, y, rfl⟩, rfl, ht⟩
      have hi' : i < w.length := by simpa [enL, wI_len] using hi
      have ed : (enL (wI w))[i] = .tuple [.int (i : Nat), .int (w[i] : Nat)] := by simp [enL, wI]
      have dr : w.drop i = w[i] :: w.drop (i + 1) := List.drop_eq_getElem_cons hi'
      rw [dr] at ht
      have tk : take (fr g h) a (w[i] :: w.drop (i + 1)) = if w[i] == a then some (w.drop (i + 1)) else if frB g a w[i] then (take (fr g h) a (w.drop (i + 1))).map (w[i] :: ·) else none := rfl
      rw [tk] at ht
      have s1 := sl_to t w i (by omega)
      have s2 : dSl (sq t w) (some ((i : Int) + 1)) none = some (sq t (w.drop (i + 1))) := sl_from t w (i + 1) (by omega)
      have ad := add_sq t (w.take i) (w.drop (i + 1)) (by rw [List.length_take, List.length_drop]; omega)
      have a1 : dAdd (.int (i : Nat)) (.int 1) = some (.int ((i : Int) + 1)) := rfl
      by_cases h1 : w[i] = a
      · rw [if_pos (by simpa using h1)] at ht
        refine ⟨_, .rt (.d (sq t (w.take i ++ w.drop (i + 1)))), [some (.d (encG g)), some (.d (.int (a : Nat))), some (.d (sq t w)), some (.d (.int (i : Nat))), some (.d (.int (w[i] : Nat)))], S', by rw [ed]; rfl, ?_, .inr ⟨_, rfl, ?_, rfl⟩⟩
        · unfold l_taken_1b
          simp [mSeq, mIfS, mBool, mBin, mVar, getV, rd, dEq_nat, h1, mRet, mSl, mNoP, mPart, mC, s1, s2, ad, a1]
        · rw [ht]; rfl
      · rw [if_neg (by simpa using h1)] at ht
        cases hq : frB g a w[i] with
        | true =>
          rw [hq, if_pos rfl] at ht
          refine ⟨_, .nx, _, S', by rw [ed]; rfl, ?_, .inl ⟨rfl, ⟨some (.d (.int (i : Nat))), some (.d (.int (w[i] : Nat))), rfl⟩, rfl, ?_⟩⟩
          · unfold l_taken_1b
            simp [mSeq, mIfS, mBool, mBin, mVar, getV, rd, dEq_nat, h1, mNext, mNot, mFn, mCons, mNil, is_free_s, hq]
          · rw [ht]
            cases take (fr g h) a (w.drop (i + 1)) with
            | none => rfl
            | some r =>
              show some _ = some _
              rw [List.take_succ_eq_append_getElem hi']
              show some (List.take i w ++ w[i] :: r) = some (List.take i w ++ [w[i]] ++ r)
              rw [List.append_assoc]
              rfl
        | false =>
          rw [hq, if_neg (by decide)] at ht
          refine ⟨_, .rt (.d .none), [some (.d (encG g)), some (.d (.int (a : Nat))), some (.d (sq t w)), some (.d (.int (i : Nat))), some (.d (.int (w[i] : Nat)))], S', by rw [ed]; rfl, ?_, .inr ⟨_, rfl, ?_, rfl⟩⟩
          · unfold l_taken_1b
            simp [mSeq, mIfS, mBool, mBin, mVar, getV, rd, dEq_nat, h1, mNext, mNot, mFn, mCons, mNil, is_free_s, hq, mRet, mC]
          · rw [ht]; rfl
  obtain ⟨fl, ρ', S', h1, h2⟩ := hloop
  rcases h2 with ⟨rfl, rfl, h3⟩ | ⟨u, rfl, rfl, rfl⟩
  · simp [b_taken, mSeq, env0, h1, mRet, mC, outW, h3, optS]
  · simp [b_taken, mSeq, env0, h1, outW]
end PL
set_option linter.all false
set_option maxRecDepth 100000
/-! P10: behind, ahead, beginnings, endings. -/
namespace PL
open PySem Ev LW Tr
theorem takes_len {F : Fr} : ∀ {u w r : List Nat}, takes F u w = some r → w.length = u.length + r.length := fun {u w r} e => by
  have := (takes_eqv e).length
  rw [List.length_append] at this
  exact this
theorem dIs_none_sq (t : Bool) (o : Option (List Nat)) : dIs (optS t o) .none = some (.bool o.isNone) := by
  cases o with
  | none => rfl
  | some w => cases t <;> rfl
theorem behind_in_s (g : Gr) (h : OkG g) (t t' : Bool) (u w : List Nat) (hl : w.length < 100000) (S : Sto) : f_behind_in [.d (encG g), .d (sq t u), .d (sq t' w)] S = some (.d (optS true (behind (fr g h) u w)), S) := by
  unfold f_behind_in
  rw [fnM_at rfl]
  have hloop : ∃ fl ρ' S', l_behind_in_1 [some (.d (encG g)), some (.d (sq t u)), some (.d (sq t' w)), some (.d (encL w)), none] S = some (fl, ρ', S') ∧
      ((fl = .nx ∧ ∃ left x, ρ' = [some (.d (encG g)), some (.d (sq t u)), some (.d (sq t' w)), some (.d (encL left)), x] ∧ S' = S ∧ left.length ≤ w.length ∧ takes (fr g h) u w = some left) ∨ ∃ v, fl = .rt v ∧ v = .d .none ∧ S' = S ∧ takes (fr g h) u w = none) := by
    unfold l_behind_in_1
    obtain ⟨b, hb⟩ := it_sq S t u
    have := mFor_ex (mi := mIt (mVar 1)) (f := gN 4) (b := l_behind_in_1b) (ρ := [some (.d (encG g)), some (.d (sq t u)), some (.d (sq t' w)), some (.d (encL w)), none]) (S := S) (wI u) (src := srcL (wI u)) (n := u.length + 1) ?_ ?_ ?_
      (fun i ρ S' => ∃ left x, ρ = [some (.d (encG g)), some (.d (sq t u)), some (.d (sq t' w)), some (.d (encL left)), x] ∧ S' = S ∧ left.length ≤ w.length ∧ takes (fr g h) u w = takes (fr g h) (u.drop i) left)
      (fun v S' => v = .d .none ∧ S' = S ∧ takes (fr g h) u w = none) ⟨w, none, rfl, rfl, Nat.le_refl _, rfl⟩ ?_
    · obtain ⟨fl, ρ', S', h1, h2⟩ := this
      refine ⟨fl, ρ', S', h1, ?_⟩
      rcases h2 with ⟨rfl, left, x, h3, h4, h5, h6⟩ | h2
      · refine .inl ⟨rfl, left, x, h3, h4, h5, ?_⟩
        rw [h6, List.drop_eq_nil_of_le (by rw [wI_len]; exact Nat.le_refl _)]
        rfl
      · exact .inr h2
    · simp [mIt, mVar, getV, hb]
    · intro _ _; rfl
    · rw [wI_len]
    · rintro i hi ρ S' ⟨left, x, rfl, rfl, hle, ht⟩
      have hi' : i < u.length := by rwa [wI_len] at hi
      have ed : (wI u)[i] = .int (u[i] : Nat) := by simp [wI]
      have dr : u.drop i = u[i] :: u.drop (i + 1) := List.drop_eq_getElem_cons hi'
      rw [dr] at ht
      have tk := taken_s g h false u[i] left (by omega) S'
      have tk : f_taken [.d (encG g), .d (.int (u[i] : Nat)), .d (encL left)] S' = some (.d (optS false (take (fr g h) u[i] left)), S') := tk
      have tt : takes (fr g h) (u[i] :: u.drop (i + 1)) left = (take (fr g h) u[i] left).bind (takes (fr g h) (u.drop (i + 1))) := rfl
      rw [tt] at ht
      have di := dIs_none_sq false (take (fr g h) u[i] left)
      cases q : take (fr g h) u[i] left with
      | none =>
        rw [q] at ht tk di
        refine ⟨_, .rt (.d .none), [some (.d (encG g)), some (.d (sq t u)), some (.d (sq t' w)), some (.d .none), some (.d (.int (u[i] : Nat)))], S', by rw [ed]; rfl, ?_, .inr ⟨_, rfl, rfl, rfl, ht⟩⟩
        have di : dIs .none .none = some (.bool true) := di
        have tk : f_taken [.d (encG g), .d (.int (u[i] : Nat)), .d (encL left)] S' = some (.d .none, S') := tk
        unfold l_behind_in_1b
        simp [mSeq, mSet, mFn, mCons, mNil, mVar, getV, tk, mIfS, mBool, mBin, rd, mC, di, mRet]
      | some r =>
        rw [q] at ht tk di
        have hr := take_len q
        refine ⟨_, .nx, _, S', by rw [ed]; rfl, ?_, .inl ⟨rfl, r, some (.d (.int (u[i] : Nat))), rfl, rfl, by omega, ht⟩⟩
        have di : dIs (encL r) .none = some (.bool false) := di
        have tk : f_taken [.d (encG g), .d (.int (u[i] : Nat)), .d (encL left)] S' = some (.d (encL r), S') := tk
        unfold l_behind_in_1b
        simp [mSeq, mSet, mFn, mCons, mNil, mVar, getV, tk, mIfS, mBool, mBin, rd, mC, di, mNext]
  have sqw : seqOf (sq t' w) = some (wI w) := by cases t' <;> rfl
  obtain ⟨fl, ρ', S', h1, h2⟩ := hloop
  have h1 : l_behind_in_1 [some (.d (encG g)), some (.d (sq t u)), some (.d (sq t' w)), some (.d (.list (wI w))), none] S = some (fl, ρ', S') := h1
  unfold behind
  rcases h2 with ⟨rfl, left, x, rfl, rfl, hle, h3⟩ | ⟨v, rfl, rfl, rfl, h3⟩
  · have ls : f_least [.d (encG g), .d (encL left)] S' = some (.d (encT (lst (fr g h) left)), S') := least_s g h false left (by omega) S'
    rw [h3]
    simp [b_behind_in, mSeq, mSet, mFr, mL1, env0, mVar, getV, rd, sqw, h1, mRet, mFn, mCons, mNil, ls, outW]
    rfl
  · rw [h3]
    simp [b_behind_in, mSeq, mSet, mFr, mL1, env0, mVar, getV, rd, sqw, h1, outW]
    rfl
/-- the pile from behind -/
theorem wI_rev (w : List Nat) : (wI w).reverse = wI w.reverse := by unfold wI; rw [List.map_reverse]
theorem turned_s (g : Gr) (h : OkG g) (w : List Nat) (hl : w.length < 100000) (S : Sto) : f_turned_round [.d (encG g), .d (encT w)] S = some (.d (encT (turned (fr g h) w)), S) := by
  unfold f_turned_round
  rw [fnM_at rfl]
  have ls : f_least [.d (encG g), .d (.tuple (wI w.reverse))] S = some (.d (encT (lst (fr g h) w.reverse)), S) := least_s g h true w.reverse (by rw [List.length_reverse]; exact hl) S
  unfold encT
  simp [b_turned_round, mRet, mFn, mCons, mNil, mVar, getV, env0, mRev, rd, wI_rev, ls, outW]
  rfl
theorem dIsN_none_sq (t : Bool) (o : Option (List Nat)) : dIsN (optS t o) .none = some (.bool o.isSome) := by
  cases o with
  | none => rfl
  | some w => cases t <;> rfl
theorem ahead_s (g : Gr) (h : OkG g) (u w : List Nat) (hl : w.length < 100000) (S : Sto) : f_ahead_in [.d (encG g), .d (encT u), .d (encT w)] S = some (.d (optS true (ahead (fr g h) u w)), S) := by
  unfold f_ahead_in
  rw [fnM_at rfl]
  have bs : f_behind_in [.d (encG g), .d (.tuple (wI u.reverse)), .d (.tuple (wI w.reverse))] S = some (.d (optS true (behind (fr g h) u.reverse w.reverse)), S) := behind_in_s g h true true u.reverse w.reverse (by rw [List.length_reverse]; exact hl) S
  have dn := dIsN_none_sq true (behind (fr g h) u.reverse w.reverse)
  unfold ahead encT
  cases q : behind (fr g h) u.reverse w.reverse with
  | none =>
    rw [q] at bs dn
    have bs : f_behind_in [.d (encG g), .d (.tuple (wI u.reverse)), .d (.tuple (wI w.reverse))] S = some (.d .none, S) := bs
    have dn : dIsN .none .none = some (.bool false) := dn
    simp [b_ahead_in, mSeq, mSet, mRet, mFn, mCons, mNil, mVar, getV, env0, mRev, rd, wI_rev, bs, mIf, mBool, mBin, mC, dn, outW]
    rfl
  | some r =>
    rw [q] at bs dn
    have rl : r.length ≤ w.length := by
      have := (behind_some.mp q).2.length
      rw [List.length_append, List.length_reverse] at this
      omega
    have bs : f_behind_in [.d (encG g), .d (.tuple (wI u.reverse)), .d (.tuple (wI w.reverse))] S = some (.d (.tuple (wI r)), S) := bs
    have dn : dIsN (.tuple (wI r)) .none = some (.bool true) := dn
    have ts : f_turned_round [.d (encG g), .d (.tuple (wI r))] S = some (.d (encT (turned (fr g h) r)), S) := turned_s g h r (by omega) S
    simp [b_ahead_in, mSeq, mSet, mRet, mFn, mCons, mNil, mVar, getV, env0, mRev, rd, wI_rev, bs, mIf, mBool, mBin, mC, dn, ts, outW]
    rfl
section
variable (g : Gr) (h : OkG g) (u w : List Nat) (hu : Pile g h u) (hw : Pile g h w) (S : Sto)
include hu hw
theorem is_beginning_s : f_is_beginning [.d (encG g), .d (encT u), .d (encT w)] S = some (.d (.bool (behind (fr g h) u w).isSome), S) := by
  unfold f_is_beginning
  rw [fnM_at rfl]
  have bs : f_behind_in [.d (encG g), .d (encT u), .d (encT w)] S = some (.d (optS true (behind (fr g h) u w)), S) := behind_in_s g h true true u w (by have := hw.len; omega) S
  simp [b_is_beginning, env0, mRet, mSeq, mSet, mDo, mNext, mNever, mIfS, mAsg, mUnp, mPar, mPar3, mBin, mIf, mBool, mAnd, mOr, mNot, mAndV, mOrV, mNotV, mVar, getV, mTup, mFr, mNew, mDisp, mCons, mNil, mC, mNeg, mFn, mCall, rds, rd, datas, datW, dIx, ixD, outW, mIsa, mChain, mSl, mNoP, mPart, mIt, srcW, mEnum, gN, gT, gsC, gsN, mRetN, mBrk, need_two_s g h u w hu hw, bs, dIsN_none_sq]
theorem is_ending_s : f_is_ending [.d (encG g), .d (encT u), .d (encT w)] S = some (.d (.bool (ahead (fr g h) u w).isSome), S) := by
  unfold f_is_ending
  rw [fnM_at rfl]
  have bs := ahead_s g h u w (by have := hw.len; omega) S
  simp [b_is_ending, env0, mRet, mSeq, mSet, mDo, mNext, mNever, mIfS, mAsg, mUnp, mPar, mPar3, mBin, mIf, mBool, mAnd, mOr, mNot, mAndV, mOrV, mNotV, mVar, getV, mTup, mFr, mNew, mDisp, mCons, mNil, mC, mNeg, mFn, mCall, rds, rd, datas, datW, dIx, ixD, outW, mIsa, mChain, mSl, mNoP, mPart, mIt, srcW, mEnum, gN, gT, gsC, gsN, mRetN, mBrk, need_two_s g h u w hu hw, bs, dIsN_none_sq]
theorem left_behind_s {r : List Nat} (q : behind (fr g h) u w = some r) : f_left_behind [.d (encG g), .d (encT u), .d (encT w)] S = some (.d (encT r), S) := by
  unfold f_left_behind
  rw [fnM_at rfl]
  have bs : f_behind_in [.d (encG g), .d (encT u), .d (encT w)] S = some (.d (optS true (behind (fr g h) u w)), S) := behind_in_s g h true true u w (by have := hw.len; omega) S
  have di := dIs_none_sq true (behind (fr g h) u w)
  rw [q] at bs di
  have bs : f_behind_in [.d (encG g), .d (encT u), .d (encT w)] S = some (.d (encT r), S) := bs
  have di : dIs (encT r) .none = some (.bool false) := di
  simp [b_left_behind, env0, mRet, mSeq, mSet, mDo, mNext, mNever, mIfS, mAsg, mUnp, mPar, mPar3, mBin, mIf, mBool, mAnd, mOr, mNot, mAndV, mOrV, mNotV, mVar, getV, mTup, mFr, mNew, mDisp, mCons, mNil, mC, mNeg, mFn, mCall, rds, rd, datas, datW, dIx, ixD, outW, mIsa, mChain, mSl, mNoP, mPart, mIt, srcW, mEnum, gN, gT, gsC, gsN, mRetN, mBrk, need_two_s g h u w hu hw, bs, di]
theorem left_ahead_s {r : List Nat} (q : ahead (fr g h) u w = some r) : f_left_ahead [.d (encG g), .d (encT u), .d (encT w)] S = some (.d (encT r), S) := by
  unfold f_left_ahead
  rw [fnM_at rfl]
  have bs := ahead_s g h u w (by have := hw.len; omega) S
  have di := dIs_none_sq true (ahead (fr g h) u w)
  rw [q] at bs di
  have bs : f_ahead_in [.d (encG g), .d (encT u), .d (encT w)] S = some (.d (encT r), S) := bs
  have di : dIs (encT r) .none = some (.bool false) := di
  simp [b_left_ahead, env0, mRet, mSeq, mSet, mDo, mNext, mNever, mIfS, mAsg, mUnp, mPar, mPar3, mBin, mIf, mBool, mAnd, mOr, mNot, mAndV, mOrV, mNotV, mVar, getV, mTup, mFr, mNew, mDisp, mCons, mNil, mC, mNeg, mFn, mCall, rds, rd, datas, datW, dIx, ixD, outW, mIsa, mChain, mSl, mNoP, mPart, mIt, srcW, mEnum, gN, gT, gsC, gsN, mRetN, mBrk, need_two_s g h u w hu hw, bs, di]
end
end PL
set_option linter.all false
set_option maxRecDepth 100000
/-! P11: barred letters, joined piles, apart. -/
namespace PL
open PySem Ev LW Tr
theorem any_wI (B : List Nat) (a : Nat) : ((wI B).any fun z => PyData.eqv z (.int (a : Nat))) = B.contains a := by
  induction B with
  | nil => rfl
  | cons b B ih =>
    show (PyData.eqv (.int (b : Nat)) (.int (a : Nat)) || _) = _
    rw [eqv_int, List.contains_cons]
    have ih : (List.any (List.map (fun a => PyData.int (a : Nat)) B) fun z => PyData.eqv z (.int (a : Nat))) = B.contains a := ih
    rw [ih]
    congr 1
    rw [Bool.eq_iff_iff]
    simp
    omega
theorem dIn_T (B : List Nat) (a : Nat) : dIn (.int (a : Nat)) (encT B) = some (.bool (B.contains a)) := by
  show some (PyData.bool ((wI B).any fun z => PyData.eqv z (.int (a : Nat)))) = _
  rw [any_wI]
theorem dNin_T (B : List Nat) (a : Nat) : dNin (.int (a : Nat)) (encT B) = some (.bool (!B.contains a)) := by
  show some (PyData.bool (!(wI B).any fun z => PyData.eqv z (.int (a : Nat)))) = _
  rw [any_wI]
theorem dLt_nat (a b : Nat) : dLt (.int (a : Nat)) (.int (b : Nat)) = some (.bool (decide (a < b))) := by
  show some (PyData.bool (ilt a b)) = _
  rw [ilt_nat]
def stepB (g : Gr) (B : List Nat) (l : Nat) : List Nat := ((List.range g.n).filter fun o => decide (o < l) || B.contains o).filter fun o => frB g o l
theorem filter_wI (p : Nat → Bool) (q : PyData → Bool) (hq : ∀ a : Nat, q (.int (a : Nat)) = p a) (w : List Nat) : (wI w).filter q = wI (w.filter p) := by
  induction w with
  | nil => rfl
  | cons a w ih =>
    show List.filter q (PyData.int (a : Nat) :: wI w) = _
    rw [List.filter_cons, List.filter_cons, hq, ih]
    split <;> rfl
def toN : PyData → Nat
  | .int i => i.toNat
  | _ => 0
theorem rgL_wI (n : Nat) : rgL 0 n = wI (List.range n) := by
  unfold rgL wI
  exact List.map_congr_left fun i _ => by simp
theorem step_in_s (g : Gr) (h : OkG g) (B : List Nat) (l : Nat) (S : Sto) : f_step_in [.d (encG g), .d (encT B), .d (.int (l : Nat))] S = some (.d (encT (stepB g B l)), S) := by
  unfold f_step_in
  rw [fnM_at rfl]
  have hn := h.n8
  have c1 : ∀ x y, c_step_in_1 [some (.d (encG g)), some (.d (encT B)), some (.d (.int (l : Nat))), x, y] S = some (wI ((List.range g.n).filter fun o => decide (o < l) || B.contains o), S) := fun x y => by
    unfold c_step_in_1
    rw [mLc_list (rgL 0 g.n) (src := srcR 0 g.n) (n := g.n + 1) ?_ ?_ ?_ ?_ (fun d => [some (.d (encG g)), some (.d (encT B)), some (.d (.int (l : Nat))), x, some (.d d)]) (fun d => decide (toN d < l) || B.contains (toN d)) (fun d => d) ?_ ?_ ?_]
    · rw [List.map_id', rgL_wI, filter_wI (fun o => decide (o < l) || B.contains o) (fun d => decide (toN d < l) || B.contains (toN d)) fun a => rfl]
    · have : rgOk (g.n : Int) = true := by unfold rgOk; rw [Nat.blt_eq]; omega
      simp [mRg1, mCons, mNil, mBin, mVar, getV, rd, mC, dIx, ixD_0, encG, this]
    · intro i S; exact srcR_L _ _ i S
    · simp [rgL]
    · simp [rgL]; omega
    · intro d _; rfl
    · intro d hd
      rw [rgL_wI] at hd
      obtain ⟨o, _, rfl⟩ := List.mem_map.mp hd
      cases q : decide (o < l) with
      | true => simp [mOr, mBool, mBin, mVar, getV, rd, dLt_nat, q, toN]; exact .inl q
      | false => simp [mOr, mBool, mBin, mVar, getV, rd, dLt_nat, q, toN, dIn_T]; intro z; exact absurd (of_decide_eq_true z) (of_decide_eq_false q)
    · intro d _ _; rfl
  have c2 : ∀ y some', c_step_in_2 [some (.d (encG g)), some (.d (encT B)), some (.d (.int (l : Nat))), some (.d (encL some')), y] S = if some'.length < 100000 then some (wI (some'.filter fun o => frB g o l), S) else c_step_in_2 [some (.d (encG g)), some (.d (encT B)), some (.d (.int (l : Nat))), some (.d (encL some')), y] S := fun y some' => by
    split
    · rename_i hl
      unfold c_step_in_2
      rw [mLc_list (wI some') (src := srcL (wI some')) (n := some'.length + 1) ?_ ?_ ?_ ?_ (fun d => [some (.d (encG g)), some (.d (encT B)), some (.d (.int (l : Nat))), some (.d (encL some')), some (.d d)]) (fun d => frB g (toN d) l) (fun d => d) ?_ ?_ ?_]
      · rw [List.map_id', filter_wI (fun o => frB g o l) (fun d => frB g (toN d) l) fun a => rfl]
      · obtain ⟨b, hb⟩ := it_sq S false some'
        have hb : srcW S (.d (encL some')) = some (b, srcL (wI some'), some'.length + 1) := hb
        simp [mIt, mVar, getV, hb]
      · intro _ _; rfl
      · rw [wI_len]
      · rw [wI_len]; omega
      · intro d _; rfl
      · intro d hd
        obtain ⟨o, _, rfl⟩ := List.mem_map.mp hd
        simp [mBool, mFn, mCons, mNil, mVar, getV, is_free_s, toN]
      · intro d _ _; rfl
    · rfl
  have hl : ((List.range g.n).filter fun o => decide (o < l) || B.contains o).length < 100000 := by
    have := List.length_filter_le (fun o => decide (o < l) || B.contains o) (List.range g.n)
    rw [List.length_range] at this
    omega
  have c2' := c2 none ((List.range g.n).filter fun o => decide (o < l) || B.contains o)
  rw [if_pos hl] at c2'
  have c2' : c_step_in_2 [some (.d (encG g)), some (.d (encT B)), some (.d (.int (l : Nat))), some (.d (.list (wI ((List.range g.n).filter fun o => decide (o < l) || B.contains o)))), none] S = _ := c2'
  simp only [b_step_in, mSeq, mSet, mFr, env0, List.map_cons, List.map_nil, List.length_cons, List.length_nil, List.cons_append, List.nil_append, Nat.reduceAdd, Nat.reduceSub, List.replicate, c1 none none, Option.map_some, Option.bind_some, List.set, mRet, mCall, mCons, mNil, c2', rds, rd, dTuple, outW, List.take_length]
  rfl
def barGo (g : Gr) : List Nat → List Nat → Option (List Nat)
  | B, [] => some B
  | B, a :: w => if B.contains a then none else barGo g (stepB g B a) w
theorem barred_behind_s (g : Gr) (h : OkG g) (w : List Nat) (hl : w.length ≤ 60) (hw : ∀ a ∈ w, a < g.n) (S : Sto) : f_barred_behind [.d (encG g), .d (encT w)] S = some (.d (optS true (barGo g [] w)), S) := by
  unfold f_barred_behind
  rw [fnM_at rfl]
  have hloop : ∃ fl ρ' S', l_barred_behind_1 [some (.d (encG g)), some (.d (encT w)), some (.d (encT [])), none] S = some (fl, ρ', S') ∧
      ((fl = .nx ∧ ∃ B x, ρ' = [some (.d (encG g)), some (.d (encT w)), some (.d (encT B)), x] ∧ S' = S ∧ barGo g [] w = some B) ∨ ∃ v, fl = .rt v ∧ v = .d .none ∧ S' = S ∧ barGo g [] w = none) := by
    unfold l_barred_behind_1
    obtain ⟨b, hb⟩ := it_sq S true w
    have hb : srcW S (.d (encT w)) = some (b, srcL (wI w), w.length + 1) := hb
    have := mFor_ex (mi := mIt (mVar 1)) (f := gN 3) (b := l_barred_behind_1b) (ρ := [some (.d (encG g)), some (.d (encT w)), some (.d (encT [])), none]) (S := S) (wI w) (src := srcL (wI w)) (n := w.length + 1) ?_ ?_ ?_
      (fun i ρ S' => ∃ B x, ρ = [some (.d (encG g)), some (.d (encT w)), some (.d (encT B)), x] ∧ S' = S ∧ barGo g [] w = barGo g B (w.drop i))
      (fun v S' => v = .d .none ∧ S' = S ∧ barGo g [] w = none) ⟨[], none, rfl, rfl, rfl⟩ ?_
    · obtain ⟨fl, ρ', S', h1, h2⟩ := this
      refine ⟨fl, ρ', S', h1, ?_⟩
      rcases h2 with ⟨rfl, B, x, h3, h4, h5⟩ | h2
      · refine .inl ⟨rfl, B, x, h3, h4, ?_⟩
        rw [h5, List.drop_eq_nil_of_le (by rw [wI_len]; exact Nat.le_refl _)]
        rfl
      · exact .inr h2
    · simp [mIt, mVar, getV, hb]
    · intro _ _; rfl
    · rw [wI_len]
    · rintro i hi ρ S' ⟨B, x, rfl, rfl, ht⟩
      have hi' : i < w.length := by rwa [wI_len] at hi
      have ed : (wI w)[i] = .int (w[i] : Nat) := by simp [wI]
      rw [List.drop_eq_getElem_cons hi'] at ht
      have tt : barGo g B (w[i] :: w.drop (i + 1)) = if B.contains w[i] then none else barGo g (stepB g B w[i]) (w.drop (i + 1)) := rfl
      rw [tt] at ht
      have ss := step_in_s g h B w[i] S'
      cases q : B.contains w[i] with
      | true =>
        rw [q, if_pos rfl] at ht
        refine ⟨_, .rt (.d .none), [some (.d (encG g)), some (.d (encT w)), some (.d (encT B)), some (.d (.int (w[i] : Nat)))], S', by rw [ed]; rfl, ?_, .inr ⟨_, rfl, rfl, rfl, ht⟩⟩
        have di := dIn_T B w[i]
        rw [q] at di
        unfold l_barred_behind_1b
        simp [mSeq, mIfS, mBool, mBin, mVar, getV, rd, di, mRet, mC]
      | false =>
        rw [q, if_neg (by decide)] at ht
        refine ⟨_, .nx, _, S', by rw [ed]; rfl, ?_, .inl ⟨rfl, stepB g B w[i], some (.d (.int (w[i] : Nat))), rfl, rfl, ht⟩⟩
        have di := dIn_T B w[i]
        rw [q] at di
        unfold l_barred_behind_1b
        simp [mSeq, mIfS, mBool, mBin, mVar, getV, rd, di, mNext, mSet, mFn, mCons, mNil, ss]
  obtain ⟨fl, ρ', S', h1, h2⟩ := hloop
  have h1 : l_barred_behind_1 [some (.d (encG g)), some (.d (encT w)), some (.d (.tuple [])), none] S = some (fl, ρ', S') := h1
  rcases h2 with ⟨rfl, B, x, rfl, rfl, h3⟩ | ⟨v, rfl, rfl, rfl, h3⟩
  · rw [h3]
    simp [b_barred_behind, mSeq, mDo, mFn, mCons, mNil, mVar, getV, env0, need_letters_s g h, need_word_s g h w hl hw, mSet, mTup, datas, show few 0 = true from rfl, h1, mRet, outW]
    rfl
  · rw [h3]
    simp [b_barred_behind, mSeq, mDo, mFn, mCons, mNil, mVar, getV, env0, need_letters_s g h, need_word_s g h w hl hw, mSet, mTup, datas, show few 0 = true from rfl, h1, outW]
    rfl
theorem joined_pile_s (g : Gr) (h : OkG g) (u w : List Nat) (hu : Pile g h u) (hw : Pile g h w) (S : Sto) : f_joined_pile [.d (encG g), .d (encT u), .d (encT w)] S = some (.d (encT (lst (fr g h) (u ++ w))), S) := by
  unfold f_joined_pile
  rw [fnM_at rfl]
  have hu' := hu.len
  have hw' := hw.len
  have ad : dAdd (encT u) (encT w) = some (encT (u ++ w)) := add_sq true u w (by omega)
  have ls : f_least [.d (encG g), .d (encT (u ++ w))] S = some (.d (encT (lst (fr g h) (u ++ w))), S) := least_s g h true (u ++ w) (by rw [List.length_append]; omega) S
  simp [b_joined_pile, env0, mRet, mSeq, mSet, mDo, mNext, mNever, mIfS, mAsg, mUnp, mPar, mPar3, mBin, mIf, mBool, mAnd, mOr, mNot, mAndV, mOrV, mNotV, mVar, getV, mTup, mFr, mNew, mDisp, mCons, mNil, mC, mNeg, mFn, mCall, rds, rd, datas, datW, dIx, ixD, outW, mIsa, mChain, mSl, mNoP, mPart, mIt, srcW, mEnum, gN, gT, gsC, gsN, mRetN, mBrk, need_letters_s g h, need_pile_s g h u hu, need_pile_s g h w hw, ad, ls]
end PL
set_option linter.all false
set_option maxRecDepth 100000
/-! P12: comprehensions over coded rows; apart, sets. -/
namespace Ev
open PySem
section
variable {α : Type} {f : Wv → Env' → Option Env'} {mt : M Bool} {me : M Wv} {ρ0 : Env'} {S : Sto}
theorem goLc_on (e : α → PyData) {r : α → Env'} {p : α → Bool} {h : α → PyData} (xs : List α) (hf : ∀ x ∈ xs, f (.d (e x)) ρ0 = some (r x)) (ht : ∀ x ∈ xs, mt (r x) S = some (p x, S)) (he : ∀ x ∈ xs, p x = true → me (r x) S = some (.d (h x), S)) :
    ∀ (k i : Nat), i + k = xs.length → goLc (srcL (xs.map e)) f mt me ρ0 (k + 1) i S = some (((xs.drop i).filter p).map h, S)
  | 0, i, q => by
    have e1 : (xs.map e)[i]? = none := List.getElem?_eq_none (by rw [List.length_map]; omega)
    rw [goLc_succ, srcL_at, e1, List.drop_eq_nil_of_le (by omega)]
    rfl
  | k + 1, i, q => by
    have hi : i < xs.length := by omega
    have m : xs[i] ∈ xs := List.getElem_mem hi
    have ih := goLc_on e xs hf ht he k (i + 1) (by omega)
    rw [goLc_succ, srcL_at, List.getElem?_map, List.getElem?_eq_getElem hi, Option.map_some]
    simp only [Option.bind_some, hf _ m, ht _ m]
    rw [List.drop_eq_getElem_cons hi, List.filter_cons]
    by_cases hp : p xs[i] = true
    · simp only [hp, if_true, he _ m hp, Option.bind_some, datW]
      rw [ih]
      rfl
    · simp only [hp, if_false, Bool.false_eq_true]
      exact ih
end
theorem mLc_on {α : Type} (e : α → PyData) {mi : M (Src × Nat)} {vs : List Nat} {f : Wv → Env' → Option Env'} {mt : M Bool} {me : M Wv} {ρ : Env'} {S : Sto} {src : Src} {n : Nat} (xs : List α) (h1 : mi ρ S = some ((src, n), S)) (hs : ∀ i S, src i S = srcL (xs.map e) i S) (hn : n = xs.length + 1) (hl : xs.length < 1000000)
    (r : α → Env') (p : α → Bool) (h : α → PyData) (hf : ∀ x ∈ xs, f (.d (e x)) (wipeE ρ vs) = some (r x)) (ht : ∀ x ∈ xs, mt (r x) S = some (p x, S)) (he : ∀ x ∈ xs, p x = true → me (r x) S = some (.d (h x), S)) :
    mLc mi vs f mt me ρ S = some ((xs.filter p).map h, S) := by
  unfold mLc
  rw [h1]
  simp only [Option.bind_some]
  subst hn
  rw [if_pos (show few (xs.length + 1) = true from Nat.ble_eq.mpr (by omega)), goLc_src hs]
  have := goLc_on e xs hf ht he xs.length 0 (by omega)
  rw [List.drop_zero] at this
  exact this
theorem mLc_onm {α : Type} (e : α → PyData) {mi : M (Src × Nat)} {vs : List Nat} {f : Wv → Env' → Option Env'} {me : M Wv} {ρ : Env'} {S : Sto} {src : Src} {n : Nat} (xs : List α) (h1 : mi ρ S = some ((src, n), S)) (hs : ∀ i S, src i S = srcL (xs.map e) i S) (hn : n = xs.length + 1) (hl : xs.length < 1000000)
    (r : α → Env') (h : α → PyData) (hf : ∀ x ∈ xs, f (.d (e x)) (wipeE ρ vs) = some (r x)) (he : ∀ x ∈ xs, me (r x) S = some (.d (h x), S)) :
    mLc mi vs f mYes me ρ S = some (xs.map h, S) := by
  have := mLc_on e (mt := mYes) (me := me) xs h1 hs hn hl r (fun _ => true) h hf (fun d _ => rfl) fun d hd _ => he d hd
  rw [this, List.filter_eq_self.mpr fun _ _ => rfl]
end Ev
namespace PL
open PySem Ev LW Tr
def nI (a : Nat) : PyData := .int (a : Nat)
theorem wI_eq (w : List Nat) : wI w = w.map nI := rfl
/-- reading a row -/
theorem it_w {ρ : Env'} {S : Sto} {t : Bool} {w : List Nat} {m : M Wv} (h : m ρ S = some (.d (sq t w), S)) : mIt m ρ S = some ((srcL (wI w), w.length + 1), S) := by
  obtain ⟨b, hb⟩ := it_sq S t w
  unfold mIt
  rw [h]
  simp only [Option.bind_some, hb]
  rfl
def apB (g : Gr) (u w : List Nat) : Bool := u.all fun a => w.all fun b => frB g a b
theorem apart_in_s (g : Gr) (t t' : Bool) (u w : List Nat) (hu : u.length < 100000) (hw : w.length < 100000) (S : Sto) : f_apart_in [.d (encG g), .d (sq t u), .d (sq t' w)] S = some (.d (.bool (apB g u w)), S) := by
  unfold f_apart_in
  rw [fnM_at rfl]
  have c1 : ∀ x (a : Nat), c_apart_in_1 [some (.d (encG g)), some (.d (sq t u)), some (.d (sq t' w)), x, some (.d (.int (a : Nat)))] S = some (w.map fun b => .bool (frB g a b), S) := fun x a => by
    unfold c_apart_in_1
    rw [mLc_onm nI w (src := srcL (wI w)) (n := w.length + 1) (it_w (t := t') (by simp [mVar, getV])) (fun _ _ => rfl) rfl (by omega) (fun b => [some (.d (encG g)), some (.d (sq t u)), some (.d (sq t' w)), some (.d (nI b)), some (.d (.int (a : Nat)))]) (fun b => .bool (frB g a b)) (fun _ _ => rfl) fun b _ => by simp [mFn, mCons, mNil, mVar, getV, nI, is_free_s]]
  have c2 : c_apart_in_2 [some (.d (encG g)), some (.d (sq t u)), some (.d (sq t' w)), none, none] S = some (u.map fun a => .bool (w.all fun b => frB g a b), S) := by
    unfold c_apart_in_2
    rw [mLc_onm nI u (src := srcL (wI u)) (n := u.length + 1) (it_w (t := t) (by simp [mVar, getV])) (fun _ _ => rfl) rfl (by omega) (fun a => [some (.d (encG g)), some (.d (sq t u)), some (.d (sq t' w)), none, some (.d (nI a))]) (fun a => .bool (w.all fun b => frB g a b)) (fun _ _ => rfl) fun a _ => by simp [mCall, mFr, mCons, mNil, nI, c1, rds, rd, all_map]]
  simp [b_apart_in, mRet, mCall, mFr, mCons, mNil, env0, c2, rds, rd, all_map, outW]
  rfl
theorem are_apart_s (g : Gr) (h : OkG g) (u w : List Nat) (hu : Pile g h u) (hw : Pile g h w) (S : Sto) : f_are_apart [.d (encG g), .d (encT u), .d (encT w)] S = some (.d (.bool (apB g u w)), S) := by
  unfold f_are_apart
  rw [fnM_at rfl]
  have ap : f_apart_in [.d (encG g), .d (encT u), .d (encT w)] S = some (.d (.bool (apB g u w)), S) := apart_in_s g true true u w (by have := hu.len; omega) (by have := hw.len; omega) S
  simp [b_are_apart, env0, mRet, mSeq, mSet, mDo, mNext, mNever, mIfS, mAsg, mUnp, mPar, mPar3, mBin, mIf, mBool, mAnd, mOr, mNot, mAndV, mOrV, mNotV, mVar, getV, mTup, mFr, mNew, mDisp, mCons, mNil, mC, mNeg, mFn, mCall, rds, rd, datas, datW, dIx, ixD, outW, mIsa, mChain, mSl, mNoP, mPart, mIt, srcW, mEnum, gN, gT, gsC, gsN, mRetN, mBrk, need_two_s g h u w hu hw, ap]
theorem every_letter_s (g : Gr) (h : OkG g) (S : Sto) : f_every_letter [.d (encG g)] S = some (.d (encT (List.range g.n)), S) := by
  unfold f_every_letter
  rw [fnM_at rfl]
  have hn := h.n8
  have : rgOk (g.n : Int) = true := by unfold rgOk; rw [Nat.blt_eq]; omega
  simp [b_every_letter, mRet, mTupRg, mBin, mVar, getV, env0, rd, mC, dIx, ixD_0, encG, this, outW]
  rfl
end PL
set_option linter.all false
set_option maxRecDepth 100000
/-! P13: sorted words; the free sets of some letters. -/
namespace PL
open PySem Ev LW Tr
theorem cmpL_wI : ∀ u w : List Nat, cmpL (wI u) (wI w) = wlt u w
  | [], [] => by simp [wI, cmpL, wlt]
  | [], b :: w => by simp [wI, cmpL, wlt]
  | a :: u, [] => by simp [wI, cmpL, wlt]
  | a :: u, b :: w => by
    show cmpL (.int (a : Nat) :: wI u) (.int (b : Nat) :: wI w) = _
    rw [cmpL, cmpL_wI u w, eqv_int, cmpD, ilt_nat, wlt]
    by_cases q : a = b
    · subst q
      simp
    · rw [if_neg q, if_neg]
      simp
      omega
theorem cmp_w (u w : List Nat) : cmpD (encT u) (encT w) = wlt u w := by
  show cmpD (.tuple (wI u)) (.tuple (wI w)) = _
  rw [cmpD, cmpL_wI]
theorem ins_map {α β : Type} (e : α → β) {lt : α → α → Bool} {lt' : β → β → Bool} (h : ∀ x y, lt' (e x) (e y) = lt x y) (x : α) : ∀ ys : List α, ins lt' (e x) (ys.map e) = (ins lt x ys).map e
  | [] => rfl
  | y :: ys => by
    rw [List.map_cons, ins, ins, h, ins_map e h x ys]
    split <;> rfl
theorem isort_map {α β : Type} (e : α → β) {lt : α → α → Bool} {lt' : β → β → Bool} (h : ∀ x y, lt' (e x) (e y) = lt x y) : ∀ ys : List α, isort lt' (ys.map e) = (isort lt ys).map e
  | [] => rfl
  | y :: ys => by rw [List.map_cons, isort, isort, isort_map e h ys, ins_map e h]
theorem fitU_wI : ∀ w : List Nat, Sh.fitU .int (wI w) = true
  | [] => by simp [wI, Sh.fitU]
  | a :: w => by
    show Sh.fitU .int (.int (a : Nat) :: wI w) = true
    rw [Sh.fitU, fitU_wI w]
    simp [Sh.fit]
theorem guesses_wI : ∀ w : List Nat, Sh.guesses (wI w) = w.map fun _ => Sh.int
  | [] => by simp [wI, Sh.guesses]
  | a :: w => by
    show Sh.guesses (.int (a : Nat) :: wI w) = _
    rw [Sh.guesses, guesses_wI w, Sh.guess]
    · rfl
    all_goals simp
theorem guess_wI (w : List Nat) : Sh.guess (encT w) = .tU .int := by
  show Sh.guess (.tuple (wI w)) = _
  rw [Sh.guess, guesses_wI]
  cases w with
  | nil => rfl
  | cons a w =>
    show Sh.ofAll (.int :: w.map fun _ => Sh.int) = _
    rw [Sh.ofAll, if_pos]
    simp [Sh.beq]
theorem homog_w (ws : List (List Nat)) : homog (ws.map encT) = true := by
  cases ws with
  | nil => rfl
  | cons w ws =>
    show homog (encT w :: ws.map encT) = true
    unfold homog
    simp only [guess_wI]
    rw [← List.map_cons, List.all_map, List.all_eq_true]
    intro x _
    show (Sh.fit (.tU .int) (.tuple (wI x)) && shal 9 (encT x)) = true
    rw [shal_T, Sh.fit, fitU_wI]
    rfl
theorem sort_ws (ws : List (List Nat)) : sortD (ws.map encT) = some ((isort wlt ws).map encT) := by
  unfold sortD
  rw [if_pos (homog_w ws), isort_map encT cmp_w]
theorem sorted_ws (ws : List (List Nat)) : dSorted (.list (ws.map encT)) = some ((isort wlt ws).map encT) := sort_ws ws
theorem isort_len {α : Type} (lt : α → α → Bool) (l : List α) : (isort lt l).length = l.length := (isort_perm lt l).length_eq
def encTs (t : Bool) (ws : List (List Nat)) : PyData := if t then .tuple (ws.map encT) else .list (ws.map encT)
/-- the free sets of some letters -/
def setS (g : Gr) (l : Nat) (fs : List (List Nat)) : List (List Nat) := fs ++ (fs.filter fun own => own.all fun x => frB g l x).map (· ++ [l])
def setsR (g : Gr) : List Nat → List (List Nat) → List (List Nat)
  | [], fs => fs
  | l :: w, fs => setsR g w (setS g l fs)
def setsOf (g : Gr) (w : List Nat) : List (List Nat) := isort wlt (setsR g w [[]])
theorem setS_len (g : Gr) (l : Nat) (fs : List (List Nat)) : (setS g l fs).length ≤ 2 * fs.length := by
  unfold setS
  rw [List.length_append, List.length_map]
  have := List.length_filter_le (fun own : List Nat => own.all fun x => frB g l x) fs
  omega
theorem add_list (xs ys : List PyData) (h : xs.length + ys.length ≤ 1000000) : dAdd (.list xs) (.list ys) = some (.list (xs ++ ys)) := by
  show (if few (xs.length + ys.length) then some (PyData.list (xs ++ ys)) else none) = _
  rw [if_pos (few_le h)]
theorem it_l {ρ : Env'} {S : Sto} {ds : List PyData} {m : M Wv} (h : m ρ S = some (.d (.list ds), S)) : mIt m ρ S = some ((srcL ds, ds.length + 1), S) := by
  unfold mIt
  rw [h]
  rfl
theorem it_t {ρ : Env'} {S : Sto} {ds : List PyData} {m : M Wv} (h : m ρ S = some (.d (.tuple ds), S)) : mIt m ρ S = some ((srcL ds, ds.length + 1), S) := by
  unfold mIt
  rw [h]
  rfl
theorem setsR_snoc (g : Gr) : ∀ (w : List Nat) (l : Nat) (fs : List (List Nat)), setsR g (w ++ [l]) fs = setS g l (setsR g w fs)
  | [], _, _ => rfl
  | a :: w, l, fs => setsR_snoc g w l (setS g a fs)
theorem setsR_len (g : Gr) : ∀ (w : List Nat) (fs : List (List Nat)), (setsR g w fs).length ≤ 2 ^ w.length * fs.length
  | [], fs => by simp [setsR]
  | a :: w, fs => by
    have h1 := setsR_len g w (setS g a fs)
    have h2 := setS_len g a fs
    show (setsR g w (setS g a fs)).length ≤ _
    refine Nat.le_trans h1 (Nat.le_trans (Nat.mul_le_mul_left _ h2) ?_)
    rw [List.length_cons, Nat.pow_succ, Nat.mul_assoc]
    exact Nat.le_refl _
theorem setsR_mem_len (g : Gr) : ∀ (w : List Nat) (fs : List (List Nat)) (n : Nat), (∀ x ∈ fs, x.length ≤ n) → ∀ x ∈ setsR g w fs, x.length ≤ n + w.length
  | [], fs, n, h, x, m => h x m
  | a :: w, fs, n, h, x, m => by
    have := setsR_mem_len g w (setS g a fs) (n + 1) (fun y hy => by
      unfold setS at hy
      rcases List.mem_append.mp hy with q | q
      · exact Nat.le_trans (h y q) (Nat.le_succ _)
      · obtain ⟨z, hz, rfl⟩ := List.mem_map.mp q
        rw [List.length_append, List.length_singleton]
        exact Nat.succ_le_succ (h z (List.mem_filter.mp hz).1)) x m
    rw [List.length_cons]
    omega
theorem sets_in_s (g : Gr) (w : List Nat) (hw : w.length ≤ 8) (S : Sto) : f_sets_in [.d (encG g), .d (encT w)] S = some (.d (encTs false (setsOf g w)), S) := by
  unfold f_sets_in
  rw [fnM_at rfl]
  have c1 : ∀ F (l : Nat) (own : List Nat) (_ : own.length < 1000) x, c_sets_in_1 [some (.d (encG g)), some (.d (encT w)), F, some (.d (nI l)), some (.d (encT own)), x] S = some (own.map fun x => .bool (frB g l x), S) := fun F l own ho x => by
    unfold c_sets_in_1
    rw [mLc_onm nI own (src := srcL (wI own)) (n := own.length + 1) (it_w (t := true) (by simp [mVar, getV]; rfl)) (fun _ _ => rfl) rfl (by omega) (fun b => [some (.d (encG g)), some (.d (encT w)), F, some (.d (nI l)), some (.d (encT own)), some (.d (nI b))]) (fun b => .bool (frB g l b)) (fun _ _ => rfl) fun b _ => by simp [mFn, mCons, mNil, mVar, getV, nI, is_free_s]]
  have c2 : ∀ (fs : List (List Nat)) (_ : fs.length < 1000) (_ : ∀ x ∈ fs, x.length < 1000) (l : Nat) x y, c_sets_in_2 [some (.d (encG g)), some (.d (encT w)), some (.d (encTs false fs)), some (.d (nI l)), x, y] S = some ((((fs.filter fun own => own.all fun x => frB g l x).map (· ++ [l])).map encT), S) := fun fs hf hx l x y => by
    unfold c_sets_in_2
    rw [mLc_on encT fs (src := srcL (fs.map encT)) (n := fs.length + 1) (by rw [it_l (ds := fs.map encT) (by simp [mVar, getV]; rfl), List.length_map]) (fun _ _ => rfl) rfl (by omega) (fun own => [some (.d (encG g)), some (.d (encT w)), some (.d (encTs false fs)), some (.d (nI l)), some (.d (encT own)), y]) (fun own => own.all fun x => frB g l x) (fun own => encT (own ++ [l])) (fun _ _ => rfl) ?_ ?_]
    · rw [List.map_map]; rfl
    · intro own m
      simp [mBool, mCall, mFr, mCons, mNil, c1 _ l own (hx own m), rds, rd, all_map]
    · intro own m _
      have ad : dAdd (encT own) (.tuple [nI l]) = some (encT (own ++ [l])) := add_sq true own [l] (by have := hx own m; simp; omega)
      simp [mBin, mVar, getV, rd, mTup, mCons, mNil, datas, show few 1 = true from rfl, ad]
  have hloop : ∃ ρ' S', l_sets_in_1 [some (.d (encG g)), some (.d (encT w)), some (.d (encTs false [[]])), none, none, none] S = some (.nx, ρ', S') ∧ ∃ x y z, ρ' = [some (.d (encG g)), some (.d (encT w)), some (.d (encTs false (setsR g w [[]]))), x, y, z] ∧ S' = S := by
    unfold l_sets_in_1
    have := mFor_inv (mi := mIt (mVar 1)) (f := gN 3) (b := l_sets_in_1b) (ρ := [some (.d (encG g)), some (.d (encT w)), some (.d (encTs false [[]])), none, none, none]) (S := S) (wI w) (src := srcL (wI w)) (n := w.length + 1) (it_w (t := true) (by simp [mVar, getV]; rfl)) (fun _ _ => rfl) (by rw [wI_len])
      (fun i ρ S' => ∃ x y z, ρ = [some (.d (encG g)), some (.d (encT w)), some (.d (encTs false (setsR g (w.take i) [[]]))), x, y, z] ∧ S' = S) ⟨none, none, none, rfl, rfl⟩ ?_
    · obtain ⟨ρ', S', h1, x, y, z, h2, h3⟩ := this
      refine ⟨ρ', S', h1, x, y, z, ?_, h3⟩
      rw [h2, wI_len, List.take_length]
    · rintro i hi ρ S' ⟨x, y, z, rfl, rfl⟩
      have hi' : i < w.length := by rwa [wI_len] at hi
      have ed : (wI w)[i] = nI w[i] := by simp [wI, nI]
      have hl : (setsR g (w.take i) [[]]).length ≤ 256 := by
        refine Nat.le_trans (setsR_len g (w.take i) [[]]) ?_
        rw [List.length_singleton, Nat.mul_one]
        have q : 2 ^ (w.take i).length ≤ 2 ^ 8 := Nat.pow_le_pow_right (by decide) (by rw [List.length_take]; omega)
        exact q
      have hm : ∀ x ∈ setsR g (w.take i) [[]], x.length < 1000 := fun x m => by
        have := setsR_mem_len g (w.take i) [[]] 0 (by simp) x m
        rw [List.length_take] at this
        omega
      have c2' := c2 (setsR g (w.take i) [[]]) (by omega) hm w[i] y z
      have ad : dAdd (encTs false (setsR g (w.take i) [[]])) (.list ((((setsR g (w.take i) [[]]).filter fun own => own.all fun x => frB g w[i] x).map (· ++ [w[i]])).map encT)) = some (encTs false (setS g w[i] (setsR g (w.take i) [[]]))) := by
        have := List.length_filter_le (fun own : List Nat => own.all fun x => frB g w[i] x) (setsR g (w.take i) [[]])
        refine (add_list _ _ (by simp only [List.length_map]; omega)).trans ?_
        unfold setS encTs
        rw [← List.map_append]
        rfl
      refine ⟨_, [some (.d (encG g)), some (.d (encT w)), some (.d (encTs false (setS g w[i] (setsR g (w.take i) [[]])))), some (.d (nI w[i])), y, z], S', by rw [ed]; rfl, ?_, some (.d (nI w[i])), y, z, ?_, rfl⟩
      · unfold l_sets_in_1b
        simp [mSet, mBin, mVar, getV, mFr, rd, c2', ad, -List.map_map]
      · rw [List.take_succ_eq_append_getElem hi', setsR_snoc]
  obtain ⟨ρ', S', h1, x, y, z, rfl, rfl⟩ := hloop
  have h1 : l_sets_in_1 [some (.d (encG g)), some (.d (encT w)), some (.d (.list [.tuple []])), none, none, none] S' = _ := h1
  simp [b_sets_in, mSeq, mSet, mFr, mDisp, mTup, mCons, mNil, datas, show few 0 = true from rfl, show few 1 = true from rfl, env0, h1, mRet, mL1, mVar, getV, rd, sorted_ws, encTs, outW]
  rfl
theorem free_sets_s (g : Gr) (h : OkG g) (S : Sto) : f_free_sets [.d (encG g)] S = some (.d (encTs true (setsOf g (List.range g.n))), S) := by
  unfold f_free_sets
  rw [fnM_at rfl]
  have hn := h.n8
  have ss := sets_in_s g (List.range g.n) (by rw [List.length_range]; exact hn) S
  have ss : f_sets_in [.d (encG g), .d (encT (List.range g.n))] S = some (.d (.list ((setsOf g (List.range g.n)).map encT)), S) := ss
  simp [b_free_sets, mSeq, mDo, mFn, mCons, mNil, mVar, getV, env0, need_letters_s g h, every_letter_s g h, ss, mRet, mCall, rds, rd, dTuple, outW]
  rfl
end PL
set_option linter.all false
set_option maxRecDepth 100000
/-! P14: is_some, is_free_in. -/
namespace PL
open PySem Ev LW Tr
def enE (w : List Nat) (i : Nat) : PyData := .tuple [.int (i : Nat), .int (w.getD i 0 : Nat)]
theorem getD_at {w : List Nat} {i : Nat} (h : i < w.length) : w.getD i 0 = w[i] := by rw [List.getD_eq_getElem?_getD, List.getElem?_eq_getElem h]; rfl
theorem enL_wI (w : List Nat) : enL (wI w) = (List.range w.length).map (enE w) := by
  apply List.ext_getElem
  · simp [enL, wI_len]
  · intro i h1 h2
    have hi : i < w.length := by simpa using h2
    simp [enL, wI, enE, hi]
theorem it_en {ρ : Env'} {S : Sto} {t : Bool} {w : List Nat} {m : M Wv} (h : m ρ S = some (.d (sq t w), S)) : mEnum m ρ S = some ((srcE (srcL (wI w)), w.length + 1), S) := by
  obtain ⟨b, hb⟩ := it_sq S t w
  unfold mEnum
  rw [h]
  simp only [Option.bind_some, hb]
  rfl
theorem src_en (w : List Nat) (i : Nat) (S : Sto) : srcE (srcL (wI w)) i S = srcL ((List.range w.length).map (enE w)) i S := by
  rw [srcE_L, enL_wI]
theorem it_rg {ρ : Env'} {S : Sto} {n : Nat} {m : M (List Wv)} (h : m ρ S = some ([.d (.int (n : Nat))], S)) (hn : n < 100000) : mRg1 m ρ S = some ((srcR 0 n, n + 1), S) := by
  unfold mRg1
  rw [h]
  have : rgOk (n : Int) = true := by unfold rgOk; rw [Nat.blt_eq]; omega
  simp [this]
theorem src_rg (n i : Nat) (S : Sto) : srcR 0 n i S = srcL ((List.range n).map nI) i S := by
  rw [srcR_L, rgL_wI]
  rfl
/-- rising -/
def ascB (w : List Nat) : Bool := (List.range (w.length - 1)).all fun i => decide (w.getD i 0 < w.getD (i + 1) 0)
def isSomeB (g : Gr) (w : List Nat) : Bool := decide (w.length ≤ g.n) && (w.all (fun a => decide (a < g.n)) && ascB w)
theorem is_tuple_w (w : List Nat) (n : Nat) (S : Sto) : f_is_tuple_of [.d (encT w), .d (.int 0), .d (.int (n : Nat))] S = some (.d (.bool (decide (w.length ≤ n))), S) := by
  have := is_tuple_of_s (wI w) 0 n S
  rw [wI_len] at this
  rw [show (decide (w.length ≤ n)) = decide ((0 : Int) ≤ (w.length : Int) ∧ (w.length : Int) ≤ (n : Int)) by rw [decide_eq_decide]; omega]
  exact this
theorem is_some_s (g : Gr) (w : List Nat) (hl : w.length < 10000) (S : Sto) : f_is_some [.d (encG g), .d (encT w)] S = some (.d (.bool (isSomeB g w)), S) := by
  unfold f_is_some
  rw [fnM_at rfl]
  have ix0 : dIx (encG g) (.int 0) = some (.int (g.n : Nat)) := rfl
  have c1 : c_is_some_1 [some (.d (encG g)), some (.d (encT w)), none, none] S = some (w.map fun a => .bool (decide (a < g.n)), S) := by
    unfold c_is_some_1
    rw [mLc_onm nI w (src := srcL (wI w)) (n := w.length + 1) (it_w (t := true) (by simp [mVar, getV]; rfl)) (fun _ _ => rfl) rfl (by omega) (fun a => [some (.d (encG g)), some (.d (encT w)), some (.d (nI a)), none]) (fun a => .bool (decide (a < g.n))) (fun _ _ => rfl) fun a _ => ?_]
    have e : decide ((0 : Int) ≤ (a : Nat) ∧ ((a : Nat) : Int) ≤ (g.n : Int) - 1) = decide (a < g.n) := by rw [decide_eq_decide]; omega
    simp [mFn, mCons, mNil, mVar, getV, mC, mBin, rd, ix0, dSub, nI, is_whole_s, -Int.ofNat_le]
    omega
  have c2 : c_is_some_2 [some (.d (encG g)), some (.d (encT w)), none, none] S = some ((List.range (w.length - 1)).map fun i => .bool (decide (w.getD i 0 < w.getD (i + 1) 0)), S) := by
    unfold c_is_some_2
    rw [mLc_onm nI (List.range (w.length - 1)) (src := srcR 0 (w.length - 1)) (n := w.length - 1 + 1) ?_ (fun i S => src_rg _ i S) (by rw [List.length_range]) (by rw [List.length_range]; omega) (fun i => [some (.d (encG g)), some (.d (encT w)), none, some (.d (nI i))]) (fun i => .bool (decide (w.getD i 0 < w.getD (i + 1) 0))) (fun _ _ => rfl) fun i hi => ?_]
    · have ln := len_sq true w
      have ln : dLen [encT w] = _ := ln
      have : rgOk ((w.length : Int) - 1) = true := by unfold rgOk; rw [Nat.blt_eq]; omega
      have e2 : ((w.length : Int) - 1).toNat = w.length - 1 := by omega
      simp [mRg1, mCons, mNil, mBin, mCall, mVar, getV, rds, rd, mC, ln, dSub, this, e2]
    · have hi : i < w.length - 1 := List.mem_range.mp hi
      have x1 := ix_sq true w i
      have x1 : dIx (encT w) (.int (i : Nat)) = w[i]?.map fun a => .int (a : Nat) := x1
      have x2 := ix_sq true w (i + 1)
      have x2 : dIx (encT w) (.int ((i : Nat) + 1)) = w[i + 1]?.map fun a => .int (a : Nat) := x2
      rw [List.getElem?_eq_getElem (by omega)] at x1 x2
      rw [getD_at (show i < w.length by omega), getD_at (show i + 1 < w.length by omega)]
      simp [mBin, mVar, getV, rd, mC, dAdd, nI, x1, x2, dLt_nat]
  unfold isSomeB ascB
  by_cases q1 : w.length ≤ g.n
  · cases q2 : w.all (fun a => decide (a < g.n)) with
    | true => simp [b_is_some, mSeq, mIfS, mOr, mNot, mBool, mFn, mCall, mFr, mCons, mNil, mVar, getV, mC, mBin, rds, rd, ix0, env0, is_tuple_w, q1, c1, all_map, q2, mNext, mRet, c2, outW, -List.all_eq_true]
    | false => simp [b_is_some, mSeq, mIfS, mOr, mNot, mBool, mFn, mCall, mFr, mCons, mNil, mVar, getV, mC, mBin, rds, rd, ix0, env0, is_tuple_w, q1, c1, all_map, q2, mRet, outW, -List.all_eq_true]
  · simp [b_is_some, mSeq, mIfS, mOr, mNot, mBool, mFn, mCons, mNil, mVar, getV, mC, mBin, rd, ix0, env0, is_tuple_w, q1, mRet, outW]
/-- a free set -/
def isFreeB (g : Gr) (w : List Nat) : Bool := isSomeB g w && (List.range w.length).all (isFirst g w)
theorem is_free_in_s (g : Gr) (w : List Nat) (hl : w.length < 10000) (S : Sto) : f_is_free_in [.d (encG g), .d (encT w)] S = some (.d (.bool (isFreeB g w)), S) := by
  unfold f_is_free_in
  rw [fnM_at rfl]
  have c1 : ∀ x i (_ : i < w.length), c_is_free_in_1 [some (.d (encG g)), some (.d (encT w)), x, some (.d (nI i)), some (.d (nI (w.getD i 0)))] S = some ((w.take i).map fun b => .bool (frB g (w.getD i 0) b), S) := fun x i hi => by
    unfold c_is_free_in_1
    have st := sl_to true w i (Nat.le_of_lt hi)
    have st : dSl (encT w) none (some (i : Int)) = some (encT (w.take i)) := st
    rw [mLc_onm nI (w.take i) (src := srcL (wI (w.take i))) (n := (w.take i).length + 1) (it_w (t := true) (by simp [mSl, mVar, getV, mNoP, mPart, nI, rd, st, -List.length_take]; rfl)) (fun _ _ => rfl) rfl (by rw [List.length_take]; omega) (fun a => [some (.d (encG g)), some (.d (encT w)), some (.d (nI a)), some (.d (nI i)), some (.d (nI (w.getD i 0)))]) (fun b => .bool (frB g (w.getD i 0) b)) (fun _ _ => rfl) fun a _ => ?_]
    exact is_free_s g (w.getD i 0) a S
  have c2 : c_is_free_in_2 [some (.d (encG g)), some (.d (encT w)), none, none, none] S = some ((List.range w.length).map fun i => .bool (isFirst g w i), S) := by
    unfold c_is_free_in_2
    rw [mLc_onm (enE w) (List.range w.length) (src := srcE (srcL (wI w))) (n := w.length + 1) (it_en (t := true) (by simp [mVar, getV]; rfl)) (fun i S => src_en w i S) (by rw [List.length_range]) (by rw [List.length_range]; omega) (fun i => [some (.d (encG g)), some (.d (encT w)), none, some (.d (nI i)), some (.d (nI (w.getD i 0)))]) (fun i => .bool (isFirst g w i)) (fun _ _ => rfl) fun i hi => ?_]
    have ha := all_map (fun b => frB g (w.getD i 0) b) (w.take i)
    simp only [mCall, mFr, mCons, mNil, c1 none i (List.mem_range.mp hi), Option.map_some, Option.bind_some, rds, rd, ha]
    rfl
  unfold isFreeB
  cases q : isSomeB g w with
  | true => simp [b_is_free_in, mSeq, mIfS, mNot, mBool, mFn, mCall, mFr, mCons, mNil, mVar, getV, env0, is_some_s g w hl, q, mNext, mRet, c2, rds, rd, all_map, outW, -List.all_eq_true]
  | false => simp [b_is_free_in, mSeq, mIfS, mNot, mBool, mFn, mCons, mNil, mVar, getV, env0, is_some_s g w hl, q, mRet, mC, outW]
theorem is_free_set_s (g : Gr) (h : OkG g) (w : List Nat) (hl : w.length < 10000) (S : Sto) : f_is_free_set [.d (encG g), .d (encT w)] S = some (.d (.bool (isFreeB g w)), S) := by
  unfold f_is_free_set
  rw [fnM_at rfl]
  simp [b_is_free_set, env0, mRet, mSeq, mSet, mDo, mNext, mNever, mIfS, mAsg, mUnp, mPar, mPar3, mBin, mIf, mBool, mAnd, mOr, mNot, mAndV, mOrV, mNotV, mVar, getV, mTup, mFr, mNew, mDisp, mCons, mNil, mC, mNeg, mFn, mCall, rds, rd, datas, datW, dIx, ixD, outW, mIsa, mChain, mSl, mNoP, mPart, mIt, srcW, mEnum, gN, gT, gsC, gsN, mRetN, mBrk, need_letters_s g h, is_free_in_s g w hl]
end PL
set_option linter.all false
set_option maxRecDepth 100000
/-! P15: a for that may stop; sorted letters without repeats; common beginnings of two. -/
namespace Ev
open PySem
theorem forGo_bk {f : Wv → Env' → Option Env'} {b : MS} (ds : List PyData) (I : Nat → Env' → Sto → Prop) (Bk : Env' → Sto → Prop)
    (step : ∀ i (hi : i < ds.length) ρ S, I i ρ S → ∃ ρ1 fl ρ2 S2, f (.d ds[i]) ρ = some ρ1 ∧ b ρ1 S = some (fl, ρ2, S2) ∧ ((fl = .nx ∧ I (i + 1) ρ2 S2) ∨ (fl = .bk ∧ Bk ρ2 S2))) :
    ∀ (k i : Nat) (ρ : Env') (S : Sto), i + k = ds.length → I i ρ S → ∃ ρ' S', forGo (srcL ds) f b (k + 1) i ρ S = some (.nx, ρ', S') ∧ (I ds.length ρ' S' ∨ Bk ρ' S')
  | 0, i, ρ, S, e, hI => by
    have e1 : ds[i]? = none := List.getElem?_eq_none (by omega)
    refine ⟨ρ, S, by rw [forGo_succ, srcL_at, e1]; rfl, .inl ?_⟩
    rw [show ds.length = i by omega]
    exact hI
  | k + 1, i, ρ, S, e, hI => by
    have hi : i < ds.length := by omega
    obtain ⟨ρ1, fl, ρ2, S2, h1, h2, h3⟩ := step i hi ρ S hI
    have e0 : forGo (srcL ds) f b (k + 1 + 1) i ρ S = (match fl with
      | .nx => forGo (srcL ds) f b (k + 1) (i + 1) ρ2 S2
      | .ct => forGo (srcL ds) f b (k + 1) (i + 1) ρ2 S2
      | .bk => some (.nx, ρ2, S2)
      | .rt w => some (.rt w, ρ2, S2)) := by
      rw [forGo_succ, srcL_at, List.getElem?_eq_getElem hi]
      simp only [Option.bind_some, h1, h2]
      cases fl <;> rfl
    rw [e0]
    rcases h3 with ⟨rfl, h3⟩ | ⟨rfl, h3⟩
    · exact forGo_bk ds I Bk step k (i + 1) ρ2 S2 (by omega) h3
    · exact ⟨ρ2, S2, rfl, .inr h3⟩
theorem mFor_bk {mi : M (Src × Nat)} {f : Wv → Env' → Option Env'} {b : MS} {ρ : Env'} {S : Sto} {src : Src} {n : Nat} (ds : List PyData) (h1 : mi ρ S = some ((src, n), S)) (hs : ∀ i S, src i S = srcL ds i S) (hn : n = ds.length + 1) (I : Nat → Env' → Sto → Prop) (Bk : Env' → Sto → Prop) (h0 : I 0 ρ S)
    (step : ∀ i (hi : i < ds.length) ρ S, I i ρ S → ∃ ρ1 fl ρ2 S2, f (.d ds[i]) ρ = some ρ1 ∧ b ρ1 S = some (fl, ρ2, S2) ∧ ((fl = .nx ∧ I (i + 1) ρ2 S2) ∨ (fl = .bk ∧ Bk ρ2 S2))) :
    ∃ ρ' S', mFor mi f b ρ S = some (.nx, ρ', S') ∧ (I ds.length ρ' S' ∨ Bk ρ' S') := by
  unfold mFor
  rw [h1]
  simp only [Option.bind_some]
  subst hn
  rw [forGo_src hs]
  exact forGo_bk ds I Bk step ds.length 0 ρ S (by omega) h0
end Ev
namespace PL
open PySem Ev LW Tr
theorem intsD_wI : ∀ w : List Nat, intsD (wI w) = some (w.map fun a : Nat => (a : Int))
  | [] => rfl
  | a :: w => by
    show (intsD (wI w)).map ((a : Int) :: ·) = _
    rw [intsD_wI w]
    rfl
theorem insU_nat (x : Nat) : ∀ w : List Nat, insU (x : Int) (w.map fun a : Nat => (a : Int)) = (insN x w).map fun a : Nat => (a : Int)
  | [] => rfl
  | y :: w => by
    rw [List.map_cons, insU, insN, ilt_nat, ilt_nat]
    have ih := insU_nat x w
    by_cases h1 : x < y
    · simp [h1]
    · by_cases h2 : y < x
      · simp [h1, h2, ih]
      · simp [h1, h2]
theorem sdist_nat : ∀ w : List Nat, sdist (w.map fun a : Nat => (a : Int)) = (sdN w).map fun a : Nat => (a : Int)
  | [] => rfl
  | x :: w => by rw [List.map_cons, sdist, sdist_nat w, insU_nat]; rfl
theorem sortSet_s (t : Bool) (w : List Nat) (h : w.length < 60) : dSortSet (sq t w) = some (wI (sdN w)) := by
  unfold dSortSet
  have e : seqOf (sq t w) = some (wI w) := by cases t <;> rfl
  rw [e]
  simp only [Option.bind_some, intsD_wI]
  rw [if_pos (by rw [Nat.blt_eq, List.length_map]; exact h), sdist_nat]
  unfold wI
  rw [List.map_map]
  rfl
end PL
set_option linter.all false
set_option maxRecDepth 100000
/-! P16: the common beginning of two. -/
namespace PL
open PySem Ev LW Tr
def encLL (u v : List Nat) : PyData := .list [encL u, encL v]
def rowE (F : Fr) (u v : List Nat) (a : Nat) : PyData := .list [optS false (take F a u), optS false (take F a v)]
section
variable (g : Gr) (h : OkG g) (u v : List Nat) (hu : u.length < 60) (hv : v.length < 60) (S : Sto)
variable (P x3 x4 x5 x6 x8 x9 x10 : Option Wv)
include hu hv
theorem cc2 (a : Nat) : c_common_in_2 [some (.d (encG g)), P, some (.d (encLL u v)), x3, x4, x5, x6, some (.d (nI a)), x8, x9, x10] S = some ([optS false (take (fr g h) a u), optS false (take (fr g h) a v)], S) := by
  unfold c_common_in_2
  rw [mLc_onm encL [u, v] (src := srcL [encL u, encL v]) (n := 3) (it_l (ds := [encL u, encL v]) (by simp [mVar, getV]; rfl)) (fun _ _ => rfl) rfl (by simp) (fun w => [some (.d (encG g)), P, some (.d (encLL u v)), x3, some (.d (encL w)), x5, x6, some (.d (nI a)), x8, x9, x10]) (fun w => optS false (take (fr g h) a w)) (fun _ _ => rfl) fun w hw => ?_]
  · rfl
  · have hl : w.length < 100000 := by
      rcases List.mem_cons.mp hw with rfl | hw
      · omega
      · rw [List.mem_singleton.mp hw]; omega
    exact taken_s g h false a w hl S
theorem cc3 (x7 : Option Wv) : c_common_in_3 [some (.d (encG g)), P, some (.d (encLL u v)), x3, x4, x5, x6, x7, x8, x9, x10] S = some ((sdN u).map (rowE (fr g h) u v), S) := by
  unfold c_common_in_3
  have hs : dSortSet (encL u) = some (wI (sdN u)) := sortSet_s false u hu
  have := sdN_len u
  have ix : dIx (encLL u v) (.int 0) = some (encL u) := rfl
  rw [mLc_onm nI (sdN u) (src := srcL (wI (sdN u))) (n := (sdN u).length + 1) (by
      have := it_l (ρ := [some (.d (encG g)), P, some (.d (encLL u v)), x3, x4, x5, x6, x7, x8, x9, x10]) (S := S) (ds := wI (sdN u)) (m := mFr (mL1 dSortSet (mBin dIx (mVar 2) (mC (.int 0))))) (by simp [mFr, mL1, mBin, mVar, getV, mC, rd, ix, hs])
      rw [wI_len] at this
      exact this) (fun _ _ => rfl) rfl (by omega) (fun a => [some (.d (encG g)), P, some (.d (encLL u v)), x3, x4, x5, x6, some (.d (nI a)), x8, x9, x10]) (rowE (fr g h) u v) (fun _ _ => rfl) fun a _ => by
    unfold mFr
    rw [cc2 g h u v hu hv S P x3 x4 x5 x6 x8 x9 x10 a]
    rfl]
omit hu hv in
theorem cc4 (x2 x7 : Option Wv) (a : Nat) : c_common_in_4 [some (.d (encG g)), P, x2, x3, x4, x5, x6, x7, x8, x9, some (.d (rowE (fr g h) u v a))] S = some ([take (fr g h) a u, take (fr g h) a v].map fun o => .bool o.isSome, S) := by
  unfold c_common_in_4
  rw [mLc_onm (optS false) [take (fr g h) a u, take (fr g h) a v] (src := srcL [optS false (take (fr g h) a u), optS false (take (fr g h) a v)]) (n := 3) (it_l (ds := [optS false (take (fr g h) a u), optS false (take (fr g h) a v)]) (by simp [mVar, getV]; rfl)) (fun _ _ => rfl) rfl (by simp) (fun o => [some (.d (encG g)), P, x2, x3, some (.d (optS false o)), x5, x6, x7, x8, x9, some (.d (rowE (fr g h) u v a))]) (fun o => .bool o.isSome) (fun _ _ => rfl) fun o _ => by
    have := dIsN_none_sq false o
    simp [mBin, mVar, getV, mC, rd, this]]
end
end PL
set_option linter.all false
set_option maxRecDepth 100000
/-! P17: common_in of two. -/
namespace PL
open PySem Ev LW Tr
def enG (ds : List PyData) (i : Nat) : PyData := .tuple [.int (i : Nat), ds.getD i .none]
theorem enL_ds (ds : List PyData) : enL ds = (List.range ds.length).map (enG ds) := by
  apply List.ext_getElem
  · simp [enL]
  · intro i h1 h2
    have hi : i < ds.length := by simpa using h2
    simp [enL, enG, hi]
theorem it_enl {ρ : Env'} {S : Sto} {ds : List PyData} {m : M Wv} (h : m ρ S = some (.d (.list ds), S)) : mEnum m ρ S = some ((srcE (srcL ds), ds.length + 1), S) := by
  unfold mEnum
  rw [h]
  rfl
section
variable (g : Gr) (h : OkG g) (u v : List Nat) (hu : u.length < 60) (hv : v.length < 60) (S : Sto)
variable (P x3 x4 x5 x7 x8 x9 x10 : Option Wv)
include hu hv
theorem cc5 (x2 : Option Wv) : c_common_in_5 [some (.d (encG g)), P, x2, x3, x4, x5, some (.d (.list ((sdN u).map (rowE (fr g h) u v)))), x7, x8, x9, x10] S = some (wI (idC (fr g h) u v), S) := by
  unfold c_common_in_5
  have := sdN_len u
  rw [mLc_on (enG ((sdN u).map (rowE (fr g h) u v))) (List.range (sdN u).length) (src := srcE (srcL ((sdN u).map (rowE (fr g h) u v)))) (n := (sdN u).length + 1) (by rw [it_enl (ds := (sdN u).map (rowE (fr g h) u v)) (by simp [mVar, getV]), List.length_map]) (fun i S => by rw [srcE_L, enL_ds, List.length_map]) (by rw [List.length_range]) (by rw [List.length_range]; omega)
    (fun i => [some (.d (encG g)), P, x2, x3, x4, x5, some (.d (.list ((sdN u).map (rowE (fr g h) u v)))), x7, x8, some (.d (nI i)), some (.d (rowE (fr g h) u v ((sdN u).getD i 0)))]) (fun i => okC (fr g h) u v ((sdN u).getD i 0)) nI ?_ ?_ ?_]
  · rfl
  · intro i hi
    have hi := List.mem_range.mp hi
    have e : ((sdN u).map (rowE (fr g h) u v)).getD i .none = rowE (fr g h) u v ((sdN u).getD i 0) := by
      rw [getD_at hi, List.getD_eq_getElem?_getD, List.getElem?_map, List.getElem?_eq_getElem hi]
      rfl
    unfold enG
    rw [e]
    rfl
  · intro i hi
    have ha := all_map (fun o : Option (List Nat) => o.isSome) [take (fr g h) ((sdN u).getD i 0) u, take (fr g h) ((sdN u).getD i 0) v]
    have e : okC (fr g h) u v ((sdN u).getD i 0) = [take (fr g h) ((sdN u).getD i 0) u, take (fr g h) ((sdN u).getD i 0) v].all fun o => o.isSome := by
      simp [okC]
    rw [e]
    simp only [mBool, mCall, mFr, mCons, mNil, cc4 g h u v S P x3 x4 x5 _ x8 _ x2 x7 ((sdN u).getD i 0), Option.map_some, Option.bind_some, rds, rd, ha]
  · intro i hi _
    rfl
end
theorem dEq_wnil (w : List Nat) : dEq (.list (wI w)) (.list []) = some (.bool (decide (w = []))) := by
  cases w with
  | nil => rfl
  | cons a w =>
    have s1 : shal 9 (.list (wI (a :: w))) = true := shal_wI 8 (a :: w)
    unfold dEq
    rw [s1]
    rfl
theorem cmn_succ (F : Fr) (n : Nat) (u v : List Nat) : cmn F (n + 1) u v = match idC F u v with
    | [] => []
    | i :: _ => (sdN u).getD i 0 :: cmn F n ((take F ((sdN u).getD i 0) u).getD []) ((take F ((sdN u).getD i 0) v).getD []) := rfl
theorem cmn_len (F : Fr) : ∀ (n : Nat) (u v : List Nat), (cmn F n u v).length ≤ n
  | 0, _, _ => Nat.le_refl _
  | n + 1, u, v => by
    rw [cmn_succ]
    split
    · exact Nat.zero_le _
    · rw [List.length_cons]
      exact Nat.succ_le_succ (cmn_len F n _ _)
theorem cmn_idx {F : Fr} {u v : List Nat} {i : Nat} {r : List Nat} (q : idC F u v = i :: r) : i < (sdN u).length ∧ okC F u v ((sdN u).getD i 0) = true := by
  have : i ∈ idC F u v := by rw [q]; exact List.mem_cons_self
  unfold idC at this
  rw [List.mem_filter, List.mem_range] at this
  exact this
theorem least_w (g : Gr) (h : OkG g) (t : Bool) (w : List Nat) (hl : w.length < 100000) (S : Sto) (W : Wv) (w0 : rd S W = some (sq t w)) (w1 : rd (S ++ [.lst []]) W = some (sq t w)) : f_least [.d (encG g), W] S = some (.d (encT (lst (fr g h) w)), S) := by
  unfold f_least
  rw [fnM_at rfl]
  have hloop : ∃ ρ' S', l_least_1 [some (.d (encG g)), some W, some (.d (encL w)), some (.r S.length), none, none, none] (S ++ [.lst []]) = some (.nx, ρ', S') ∧
      (∃ left acc x4 x5, ρ' = [some (.d (encG g)), some W, some (.d (encL left)), some (.r S.length), x4, x5, none] ∧ S' = S ++ [.lst (wI acc)] ∧ left.length + w.length = w.length ∧ acc ++ least (fr g h) left.length left = lst (fr g h) w) := by
    unfold l_least_1
    have hr : rgOk (w.length : Int) = true := by unfold rgOk; rw [Nat.blt_eq]; omega
    have := mFor_inv (mi := mRg1 (mCons (mCall dLen (mCons (mVar 1) mNil)) mNil)) (f := gN 4) (b := l_least_1b) (ρ := [some (.d (encG g)), some W, some (.d (encL w)), some (.r S.length), none, none, none]) (S := S ++ [.lst []]) (rgL 0 w.length) (src := srcR 0 w.length) (n := w.length + 1) ?_ ?_ ?_
      (fun i ρ S' => ∃ left acc x4 x5, ρ = [some (.d (encG g)), some W, some (.d (encL left)), some (.r S.length), x4, x5, none] ∧ S' = S ++ [.lst (wI acc)] ∧ left.length + i = w.length ∧ acc ++ least (fr g h) left.length left = lst (fr g h) w) ⟨w, [], none, none, rfl, rfl, rfl, rfl⟩ ?_
    · simpa [rgL] using this
    · simp [mRg1, mCons, mNil, mCall, mVar, getV, rds, w1, len_sq, hr]
    · intro i S; exact srcR_L _ _ i S
    · simp [rgL]
    · rintro i hi ρ S' ⟨left, acc, x4, x5, rfl, rfl, hn, he⟩
      have hi' : i < w.length := by simpa [rgL] using hi
      have hne : left ≠ [] := by
        rintro rfl
        simp at hn
        omega
      obtain ⟨p0, ps, e0, hp, e1, e2, e3⟩ := pick h hne
      generalize hpl : (pmin p0 ps).2 = pl at hp e1 e2 e3
      have ed : (rgL 0 w.length)[i] = .int (i : Nat) := by simp [rgL]
      have cl := c_least_s g left (by omega) (some W) (some (.r S.length)) (some (.d (.int (i : Nat)))) x5 (S ++ [.lst (wI acc)])
      have cm : (fp g left).map (fun i => encP (left.getD i 0, i)) = encP p0 :: ps.map encP := by
        have := congrArg (List.map encP) e0
        rw [List.map_map, List.map_cons] at this
        exact this
      rw [cm] at cl
      have mn : dMinL [.list (encP p0 :: ps.map encP)] = some (.tuple [.int (left[pl] : Nat), .int (pl : Nat)]) := by
        show (if homog (encP p0 :: ps.map encP) then some (foldD cmpD (encP p0) (ps.map encP)) else none) = _
        rw [if_pos (homog_pairs p0 ps), foldD_pair]
        unfold encP
        rw [e1, hpl]
      have ix1 : dIx (encL left) (.int (pl : Nat)) = some (.int (left[pl] : Nat)) := by
        have := ix_sq false left pl
        rw [List.getElem?_eq_getElem hp] at this
        exact this
      have s1 : dSl (encL left) none (some (pl : Int)) = some (encL (left.take pl)) := sl_to false left pl (by omega)
      have s2 : dSl (encL left) (some ((pl : Int) + 1)) none = some (encL (left.drop (pl + 1))) := sl_from false left (pl + 1) (by omega)
      have ad : dAdd (encL (left.take pl)) (encL (left.drop (pl + 1))) = some (encL (left.eraseIdx pl)) := by
        show (if few ((wI (left.take pl)).length + (wI (left.drop (pl + 1))).length) then some (PyData.list (wI (left.take pl) ++ wI (left.drop (pl + 1)))) else none) = _
        rw [if_pos (few_le (by rw [wI_len, wI_len, List.length_take, List.length_drop]; omega)), ← wI_app, ← List.eraseIdx_eq_take_drop_succ]
        rfl
      have al : acc.length ≤ w.length := by
        have := congrArg List.length he
        have l1 : (least (fr g h) left.length left).length = left.length := lst_length left
        have l2 : (lst (fr g h) w).length = w.length := lst_length w
        rw [List.length_append] at this
        omega
      have fe : few (wI acc).length = true := few_le (by rw [wI_len]; omega)
      have i1 : dIx (.tuple [.int (left[pl] : Nat), .int (pl : Nat)]) (.int 1) = some (.int (pl : Nat)) := rfl
      have a1 : dAdd (.int (pl : Nat)) (.int 1) = some (.int ((pl : Int) + 1)) := rfl
      refine ⟨_, _, _, by rw [ed]; rfl, ?_, left.eraseIdx pl, acc ++ [left[pl]], some (.d (.int (i : Nat))), some (.d (.int (pl : Nat))), rfl, rfl, ?_, ?_⟩
      · unfold l_least_1b
        simp [mSeq, mSet, mBin, mCall, mCons, mNil, mFr, cl, rds, rd, mn, mC, i1, mDo, mApp, mVar, getV, st_get0, st_set0, datW, fe, ix1, wI_app, wI_one, mSl, mNoP, mPart, s1, s2, a1, ad]
      · rw [List.length_eraseIdx, if_pos hp]
        omega
      · have ln : left.length = (left.eraseIdx pl).length + 1 := by rw [List.length_eraseIdx, if_pos hp]; omega
        rw [ln] at he
        have : least (fr g h) ((left.eraseIdx pl).length + 1) left = left[pl] :: least (fr g h) (left.eraseIdx pl).length (left.eraseIdx pl) := by
          show (match lfirst (fr g h) left with
            | none => []
            | some a => match take (fr g h) a left with
              | none => []
              | some r => a :: least (fr g h) (left.eraseIdx pl).length r) = _
          rw [e2]
          simp only [e3]
        rw [this] at he
        rw [List.append_assoc]
        exact he
  obtain ⟨ρ', S', h1, left, acc, x4, x5, rfl, rfl, hn, he⟩ := hloop
  have l0 : left = [] := List.length_eq_zero_iff.mp (by omega)
  subst l0
  have he : acc = lst (fr g h) w := by simpa [least] using he
  have sqw : seqOf (sq t w) = some (wI w) := by cases t <;> rfl
  have h1 : l_least_1 [some (.d (encG g)), some W, some (.d (.list (wI w))), some (.r S.length), none, none, none] (S ++ [.lst []]) = some (.nx, [some (.d (encG g)), some W, some (.d (encL [])), some (.r S.length), x4, x5, none], S ++ [.lst (wI acc)]) := h1
  have m1 : mL1 seqOf (mVar 1) [some (.d (encG g)), some W, none, none, none, none, none] S = some (wI w, S) := by
    simp [mL1, mVar, getV, w0, sqw]
  simp [b_least, mSeq, mUnp, mFr, mNew, mDisp, mCons, mNil, env0, m1, datas, gsC, gsN, gN, h1, show few 0 = true from rfl, show few 2 = true from rfl, mRet, mCall, mVar, getV, rds, rd, st_get0, dTuple, he, encT, outW]
theorem common_in_s (g : Gr) (h : OkG g) (u v : List Nat) (hu : u.length < 60) (hv : v.length < 60) (S : Sto) : f_common_in [.d (encG g), .d (.tuple [encT u, encT v])] S = some (.d (encT (lst (fr g h) (cmn (fr g h) u.length u v))), S) := by
  unfold f_common_in
  rw [fnM_at rfl]
  have c1 : c_common_in_1 [some (.d (encG g)), some (.d (.tuple [encT u, encT v])), none, none, none, none, none, none, none, none, none] S = some ([encL u, encL v], S) := by
    unfold c_common_in_1
    rw [mLc_onm encT [u, v] (src := srcL [encT u, encT v]) (n := 3) (it_t (ds := [encT u, encT v]) (by simp [mVar, getV])) (fun _ _ => rfl) rfl (by simp) (fun w => [some (.d (encG g)), some (.d (.tuple [encT u, encT v])), none, none, some (.d (encT w)), none, none, none, none, none, none]) encL (fun _ _ => rfl) fun w _ => rfl]
    rfl
  have hloop : ∃ ρ' S', l_common_in_1 [some (.d (encG g)), some (.d (.tuple [encT u, encT v])), some (.d (encLL u v)), some (.r S.length), none, none, none, none, none, none, none] (S ++ [.lst []]) = some (.nx, ρ', S') ∧
      ∃ x2 x4 x5 x6 x7 x8 x9 x10, ρ' = [some (.d (encG g)), some (.d (.tuple [encT u, encT v])), x2, some (.r S.length), x4, x5, x6, x7, x8, x9, x10] ∧ S' = S ++ [.lst (wI (cmn (fr g h) u.length u v))] := by
    unfold l_common_in_1
    have := mFor_bk (mi := mRg1 (mCons (mCall dLen (mCons (mBin dIx (mVar 2) (mC (.int 0))) mNil)) mNil)) (f := gN 5) (b := l_common_in_1b) (ρ := [some (.d (encG g)), some (.d (.tuple [encT u, encT v])), some (.d (encLL u v)), some (.r S.length), none, none, none, none, none, none, none]) (S := S ++ [.lst []]) ((List.range u.length).map nI) (src := srcR 0 u.length) (n := u.length + 1) ?_ (fun i S => src_rg _ i S) (by rw [List.length_map, List.length_range])
      (fun i ρ S' => ∃ u' v' dn x4 x5 x6 x7 x8 x9 x10, ρ = [some (.d (encG g)), some (.d (.tuple [encT u, encT v])), some (.d (encLL u' v')), some (.r S.length), x4, x5, x6, x7, x8, x9, x10] ∧ S' = S ++ [.lst (wI dn)] ∧ u'.length < 60 ∧ v'.length < 60 ∧ dn.length ≤ i ∧ cmn (fr g h) u.length u v = dn ++ cmn (fr g h) (u.length - i) u' v')
      (fun ρ S' => ∃ x2 x4 x5 x6 x7 x8 x9 x10, ρ = [some (.d (encG g)), some (.d (.tuple [encT u, encT v])), x2, some (.r S.length), x4, x5, x6, x7, x8, x9, x10] ∧ S' = S ++ [.lst (wI (cmn (fr g h) u.length u v))])
      ⟨u, v, [], none, none, none, none, none, none, none, rfl, rfl, hu, hv, Nat.le_refl _, rfl⟩ ?_
    · obtain ⟨ρ', S', h1, h2⟩ := this
      refine ⟨ρ', S', h1, ?_⟩
      rcases h2 with ⟨u', v', dn, x4, x5, x6, x7, x8, x9, x10, rfl, rfl, _, _, _, e⟩ | h2
      · refine ⟨_, x4, x5, x6, x7, x8, x9, x10, rfl, ?_⟩
        rw [e, List.length_map, List.length_range, Nat.sub_self]
        simp [cmn]
      · exact h2
    · have ix : dIx (encLL u v) (.int 0) = some (encL u) := rfl
      have ln : dLen [encL u] = some (.int (u.length : Nat)) := len_sq false u
      exact it_rg (by simp [mCons, mNil, mCall, mBin, mVar, getV, mC, rds, rd, ix, ln]) (by omega)
    · rintro i hi ρ S' ⟨u', v', dn, x4, x5, x6, x7, x8, x9, x10, rfl, rfl, hu', hv', hd, e⟩
      have hi' : i < u.length := by simpa using hi
      have ed : ((List.range u.length).map nI)[i] = nI i := by simp
      have k3 := cc3 g h u' v' hu' hv' (S ++ [.lst (wI dn)]) (some (.d (.tuple [encT u, encT v]))) (some (.r S.length)) x4 (some (.d (nI i))) x6 x8 x9 x10 x7
      have k5 := cc5 g h u' v' hu' hv' (S ++ [.lst (wI dn)]) (some (.d (.tuple [encT u, encT v]))) (some (.r S.length)) x4 (some (.d (nI i))) x7 x8 x9 x10 (some (.d (encLL u' v')))
      have n1 : u.length - i = (u.length - (i + 1)) + 1 := by omega
      rw [n1, cmn_succ] at e
      have bq := dEq_wnil (idC (fr g h) u' v')
      cases q : idC (fr g h) u' v' with
      | nil =>
        rw [q] at e bq
        have e : cmn (fr g h) u.length u v = dn ++ [] := e
        rw [List.append_nil] at e
        have bq : dEq (.list (wI [])) (.list []) = some (.bool true) := bq
        rw [q] at k5
        refine ⟨[some (.d (encG g)), some (.d (.tuple [encT u, encT v])), some (.d (encLL u' v')), some (.r S.length), x4, some (.d (nI i)), x6, x7, x8, x9, x10], .bk, [some (.d (encG g)), some (.d (.tuple [encT u, encT v])), some (.d (encLL u' v')), some (.r S.length), x4, some (.d (nI i)), some (.d (.list ((sdN u').map (rowE (fr g h) u' v')))), x7, some (.d (.list (wI []))), x9, x10], _, by rw [ed]; rfl, ?_, .inr ⟨rfl, _, _, _, _, _, _, _, _, rfl, by rw [e]⟩⟩
        unfold l_common_in_1b
        simp [mSeq, mSet, mFr, k3, k5, mIfS, mBool, mBin, mVar, getV, rd, mDisp, mNil, datas, show few 0 = true from rfl, bq, mBrk]
      | cons j r =>
        rw [q] at e bq
        obtain ⟨j1, j2⟩ := cmn_idx q
        have e : cmn (fr g h) u.length u v = dn ++ (sdN u').getD j 0 :: cmn (fr g h) (u.length - (i + 1)) ((take (fr g h) ((sdN u').getD j 0) u').getD []) ((take (fr g h) ((sdN u').getD j 0) v').getD []) := e
        have bq : dEq (.list (wI (j :: r))) (.list []) = some (.bool false) := bq
        rw [q] at k5
        obtain ⟨t1, t2⟩ := Bool.and_eq_true_iff.mp j2
        obtain ⟨ru, hru⟩ := Option.isSome_iff_exists.mp t1
        obtain ⟨rv, hrv⟩ := Option.isSome_iff_exists.mp t2
        have l1 := take_len hru
        have l2 := take_len hrv
        rw [hru, hrv] at e
        have e : cmn (fr g h) u.length u v = (dn ++ [(sdN u').getD j 0]) ++ cmn (fr g h) (u.length - (i + 1)) ru rv := by rw [List.append_assoc]; exact e
        have i0 : dIx (.list (wI (j :: r))) (.int 0) = some (.int (j : Nat)) := rfl
        have ixL : dIx (encLL u' v') (.int 0) = some (encL u') := rfl
        have ss : dSortSet (encL u') = some (wI (sdN u')) := sortSet_s false u' hu'
        have i1 : dIx (.list (wI (sdN u'))) (.int (j : Nat)) = some (.int ((sdN u').getD j 0 : Nat)) := by
          have := ix_sq false (sdN u') j
          rw [List.getElem?_eq_getElem j1] at this
          rw [getD_at j1]
          exact this
        have i2 : dIx (.list ((sdN u').map (rowE (fr g h) u' v'))) (.int (j : Nat)) = some (encLL ru rv) := by
          show ixD ((sdN u').map (rowE (fr g h) u' v')) (j : Int) = _
          rw [ixD_nat, List.getElem?_map, List.getElem?_eq_getElem j1, Option.map_some, ← getD_at j1]
          unfold rowE
          rw [hru, hrv]
          rfl
        have fw : few (wI dn).length = true := few_le (by rw [wI_len]; omega)
        refine ⟨[some (.d (encG g)), some (.d (.tuple [encT u, encT v])), some (.d (encLL u' v')), some (.r S.length), x4, some (.d (nI i)), x6, x7, x8, x9, x10], .nx, [some (.d (encG g)), some (.d (.tuple [encT u, encT v])), some (.d (encLL ru rv)), some (.r S.length), x4, some (.d (nI i)), some (.d (.list ((sdN u').map (rowE (fr g h) u' v')))), x7, some (.d (.list (wI (j :: r)))), x9, x10], S ++ [.lst (wI (dn ++ [(sdN u').getD j 0]))], by rw [ed]; rfl, ?_, .inl ⟨rfl, ru, rv, dn ++ [(sdN u').getD j 0], _, _, _, _, _, _, _, rfl, rfl, by omega, by omega, by rw [List.length_append, List.length_singleton]; omega, e⟩⟩
        unfold l_common_in_1b
        simp [mSeq, mSet, mFr, k3, k5, mIfS, mBool, mBin, mVar, getV, rd, mDisp, mNil, mC, datas, show few 0 = true from rfl, bq, mNext, mDo, mApp, mL1, i0, ixL, ss, i1, i2, st_get0, st_set0, datW, fw, wI_app, wI_one]
  obtain ⟨ρ', S', h1, x2, x4, x5, x6, x7, x8, x9, x10, rfl, rfl⟩ := hloop
  have h1 : l_common_in_1 [some (.d (encG g)), some (.d (.tuple [encT u, encT v])), some (.d (.list [encL u, encL v])), some (.r S.length), none, none, none, none, none, none, none] (S ++ [.lst []]) = _ := h1
  have cl := cmn_len (fr g h) u.length u v
  have lw := least_w g h false (cmn (fr g h) u.length u v) (by omega) (S ++ [Cell.lst (wI (cmn (fr g h) u.length u v))]) (.r S.length) (by simp [rd]; rfl) (by simp [rd]; rfl)
  simp [b_common_in, mSeq, mUnp, mFr, mNew, mDisp, mCons, mNil, env0, c1, datas, show few 0 = true from rfl, show few 2 = true from rfl, gsC, gsN, gN, h1, mRet, mFn, mVar, getV, outW]
  rw [lw]
  simp
end PL
set_option linter.all false
set_option maxRecDepth 100000
/-! P18: some piles; rests, above. -/
namespace PL
open PySem Ev LW Tr
theorem is_tuple_ts (ws : List (List Nat)) (h1 : 1 ≤ ws.length) (h2 : ws.length ≤ 10) (S : Sto) : f_is_tuple_of [.d (encTs true ws), .d (.int 1), .d (.int 10)] S = some (.d (.bool true), S) := by
  have := is_tuple_of_s (ws.map encT) 1 10 S
  rw [List.length_map] at this
  have e : decide ((1 : Int) ≤ (ws.length : Int) ∧ (ws.length : Int) ≤ 10) = true := decide_eq_true (by omega)
  rw [e] at this
  exact this
theorem need_all_s (g : Gr) (h : OkG g) (ws : List (List Nat)) (h1 : 1 ≤ ws.length) (h2 : ws.length ≤ 10) (hp : ∀ w ∈ ws, Pile g h w) (S : Sto) : f_need_all [.d (encG g), .d (encTs true ws)] S = some (.d .none, S) := by
  have c1 : c_need_piles_1 [some (.d (encG g)), some (.d (encTs true ws)), none] S = some (ws.map fun _ => .bool true, S) := by
    unfold c_need_piles_1
    rw [mLc_onm encT ws (src := srcL (ws.map encT)) (n := ws.length + 1) (by
      have := it_t (ρ := [some (.d (encG g)), some (.d (encTs true ws)), none]) (S := S) (ds := ws.map encT) (m := mVar 1) rfl
      rw [List.length_map] at this
      exact this) (fun _ _ => rfl) rfl (by omega) (fun w => [some (.d (encG g)), some (.d (encTs true ws)), some (.d (encT w))]) (fun _ => .bool true) (fun _ _ => rfl) fun w hw => is_pile_of_s g h w (hp w hw) S]
  have np : f_need_piles [.d (encG g), .d (encTs true ws)] S = some (.d .none, S) := by
    unfold f_need_piles
    rw [fnM_at rfl]
    have ha := all_map (fun _ => true) ws
    have e : (ws.all fun _ => true) = true := List.all_eq_true.mpr fun _ _ => rfl
    rw [e] at ha
    simp [b_need_piles, mIfS, mOr, mNot, mBool, mFn, mCall, mFr, mCons, mNil, mVar, getV, mC, env0, is_tuple_ts ws h1 h2, c1, rds, rd, ha, mNext]
  unfold f_need_all
  rw [fnM_at rfl]
  simp [b_need_all, mSeq, mDo, mFn, mCons, mNil, mVar, getV, env0, need_letters_s g h, np]
theorem common_beginning_s (g : Gr) (h : OkG g) (u v : List Nat) (hu : Pile g h u) (hv : Pile g h v) (lu : u.length < 60) (lv : v.length < 60) (S : Sto) : f_common_beginning [.d (encG g), .d (.tuple [encT u, encT v])] S = some (.d (encT (lst (fr g h) (cmn (fr g h) u.length u v))), S) := by
  unfold f_common_beginning
  rw [fnM_at rfl]
  have na : f_need_all [.d (encG g), .d (.tuple [encT u, encT v])] S = some (.d .none, S) := need_all_s g h [u, v] (by simp) (by simp) (by
    intro w hw
    rcases List.mem_cons.mp hw with rfl | hw
    · exact hu
    · rw [List.mem_singleton.mp hw]; exact hv) S
  simp [b_common_beginning, mSeq, mDo, mFn, mCons, mNil, mVar, getV, env0, na, mRet, common_in_s g h u v lu lv, outW]
def cm2 (F : Fr) (u v : List Nat) : List Nat := lst F (cmn F u.length u v)
theorem rests_in_s (g : Gr) (h : OkG g) (u v : List Nat) (lu : u.length < 60) (lv : v.length < 60) (S : Sto) : f_rests_in [.d (encG g), .d (encT u), .d (encT v)] S = some (.d (.tuple [optS true (behind (fr g h) (cm2 (fr g h) u v) u), optS true (behind (fr g h) (cm2 (fr g h) u v) v)]), S) := by
  unfold f_rests_in
  rw [fnM_at rfl]
  have cs := common_in_s g h u v lu lv S
  have b1 : f_behind_in [.d (encG g), .d (encT (cm2 (fr g h) u v)), .d (encT u)] S = _ := behind_in_s g h true true (cm2 (fr g h) u v) u (by omega) S
  have b2 : f_behind_in [.d (encG g), .d (encT (cm2 (fr g h) u v)), .d (encT v)] S = _ := behind_in_s g h true true (cm2 (fr g h) u v) v (by omega) S
  unfold cm2 at b1 b2
  simp [b_rests_in, mSeq, mSet, mFn, mTup, mCons, mNil, mVar, getV, env0, datas, show few 2 = true from rfl, cs, b1, b2, mRet, outW, cm2]
end PL
set_option linter.all false
set_option maxRecDepth 100000
/-! P19: above two; alike joins. -/
namespace PL
open PySem Ev LW Tr
def ab2 (g : Gr) (h : OkG g) (u v : List Nat) : Option (List Nat) :=
  match behind (fr g h) (cm2 (fr g h) u v) u, behind (fr g h) (cm2 (fr g h) u v) v with
  | some p, some q => if apB g p q then some (lst (fr g h) (u ++ q)) else none
  | _, _ => none
theorem above_in_s (g : Gr) (h : OkG g) (u v p q : List Nat) (lu : u.length < 60) (lv : v.length < 60) (hp : behind (fr g h) (cm2 (fr g h) u v) u = some p) (hq : behind (fr g h) (cm2 (fr g h) u v) v = some q) (S : Sto) : f_above_in [.d (encG g), .d (encT u), .d (encT v)] S = some (.d (optS true (ab2 g h u v)), S) := by
  unfold f_above_in
  rw [fnM_at rfl]
  have rs := rests_in_s g h u v lu lv S
  rw [hp, hq] at rs
  have rs : f_rests_in [.d (encG g), .d (encT u), .d (encT v)] S = some (.d (.tuple [encT p, encT q]), S) := rs
  have l1 := (behind_some.mp hp).2.length
  have l2 := (behind_some.mp hq).2.length
  rw [List.length_append] at l1 l2
  have ap : f_apart_in [.d (encG g), .d (encT p), .d (encT q)] S = some (.d (.bool (apB g p q)), S) := apart_in_s g true true p q (by omega) (by omega) S
  have ad : dAdd (encT u) (encT q) = some (encT (u ++ q)) := add_sq true u q (by omega)
  have ls : f_least [.d (encG g), .d (encT (u ++ q))] S = some (.d (encT (lst (fr g h) (u ++ q))), S) := least_s g h true (u ++ q) (by rw [List.length_append]; omega) S
  unfold ab2
  rw [hp, hq]
  cases z : apB g p q with
  | true =>
    rw [z] at ap
    simp [b_above_in, mSeq, mAsg, mFn, mCons, mNil, mVar, getV, env0, rs, gT, gsC, gsN, gN, datas, mRet, mIf, mBool, ap, mBin, rd, ad, ls, outW, z, optS]
    rfl
  | false =>
    rw [z] at ap
    simp [b_above_in, mSeq, mAsg, mFn, mCons, mNil, mVar, getV, env0, rs, gT, gsC, gsN, gN, datas, mRet, mIf, mBool, ap, mC, outW, z, optS]
theorem are_alike_in_s (g : Gr) (h : OkG g) (x y z t : List Nat) (hx : x.length < 100) (hy : y.length < 100) (hz : z.length < 100) (ht : t.length < 100) (S : Sto) : f_are_alike_in [.d (encG g), .d (encT x), .d (encT y), .d (encT z), .d (encT t)] S = some (.d (.bool (decide (lst (fr g h) (x ++ y) = lst (fr g h) (z ++ t)))), S) := by
  unfold f_are_alike_in
  rw [fnM_at rfl]
  have a1 : dAdd (encT x) (encT y) = some (encT (x ++ y)) := add_sq true x y (by omega)
  have a2 : dAdd (encT z) (encT t) = some (encT (z ++ t)) := add_sq true z t (by omega)
  have l1 : f_least [.d (encG g), .d (encT (x ++ y))] S = some (.d (encT (lst (fr g h) (x ++ y))), S) := least_s g h true (x ++ y) (by rw [List.length_append]; omega) S
  have l2 : f_least [.d (encG g), .d (encT (z ++ t))] S = some (.d (encT (lst (fr g h) (z ++ t))), S) := least_s g h true (z ++ t) (by rw [List.length_append]; omega) S
  simp [b_are_alike_in, mRet, mBin, mFn, mCons, mNil, mVar, getV, env0, rd, a1, a2, l1, l2, dEq_T, outW]
end PL
set_option linter.all false
set_option maxRecDepth 100000
/-! P20: four piles, four parts. -/
namespace PL
open PySem Ev LW Tr
theorem need_four_s (g : Gr) (h : OkG g) (ws : List (List Nat)) (hp : ∀ w ∈ ws, Pile g h w) (S : Sto) : f_need_four [.d (encG g), .d (encTs true ws)] S = some (.d .none, S) := by
  unfold f_need_four
  rw [fnM_at rfl]
  have hloop : ∃ ρ' S', l_need_four_1 [some (.d (encG g)), some (.d (encTs true ws)), none] S = some (.nx, ρ', S') ∧ S' = S := by
    unfold l_need_four_1
    have := mFor_inv (mi := mIt (mVar 1)) (f := gN 2) (b := l_need_four_1b) (ρ := [some (.d (encG g)), some (.d (encTs true ws)), none]) (S := S) (ws.map encT) (src := srcL (ws.map encT)) (n := (ws.map encT).length + 1) (it_t rfl) (fun _ _ => rfl) rfl
      (fun i ρ S' => ∃ x, ρ = [some (.d (encG g)), some (.d (encTs true ws)), x] ∧ S' = S) ⟨none, rfl, rfl⟩ ?_
    · obtain ⟨ρ', S', h1, x, h2, h3⟩ := this
      exact ⟨ρ', S', h1, h3⟩
    · rintro i hi ρ S' ⟨x, rfl, rfl⟩
      have hi' : i < ws.length := by simpa using hi
      have ed : (ws.map encT)[i] = encT ws[i] := by simp
      refine ⟨[some (.d (encG g)), some (.d (encTs true ws)), some (.d (encT ws[i]))], _, S', by rw [ed]; rfl, ?_, some (.d (encT ws[i])), rfl, rfl⟩
      unfold l_need_four_1b
      simp [mDo, mFn, mCons, mNil, mVar, getV, need_pile_s g h ws[i] (hp _ (List.getElem_mem hi'))]
  obtain ⟨ρ', S', h1, rfl⟩ := hloop
  simp [b_need_four, mSeq, mDo, mFn, mCons, mNil, mVar, getV, env0, need_letters_s g h, h1]
section
variable (g : Gr) (h : OkG g) (x y z t p q r s : List Nat) (lx : x.length < 60) (ly : y.length < 60) (lz : z.length < 60) (S : Sto)
variable (hp : cm2 (fr g h) x z = p) (hq : behind (fr g h) p x = some q) (hr : behind (fr g h) p z = some r) (hs : behind (fr g h) r y = some s)
include lx ly lz hp hq hr hs
theorem parts_in_s (W : Wv) : f_parts_in [.d (encG g), .d (encT x), .d (encT y), .d (encT z), W] S = some (.d (.tuple [encT p, encT q, encT r, encT s]), S) := by
  unfold f_parts_in
  rw [fnM_at rfl]
  have cs : f_common_in [.d (encG g), .d (.tuple [encT x, encT z])] S = some (.d (encT (cm2 (fr g h) x z)), S) := common_in_s g h x z lx lz S
  rw [hp] at cs
  have b1 : f_behind_in [.d (encG g), .d (encT p), .d (encT x)] S = _ := behind_in_s g h true true p x (by omega) S
  have b2 : f_behind_in [.d (encG g), .d (encT p), .d (encT z)] S = _ := behind_in_s g h true true p z (by omega) S
  have b3 : f_behind_in [.d (encG g), .d (encT r), .d (encT y)] S = _ := behind_in_s g h true true r y (by omega) S
  rw [hq] at b1
  rw [hr] at b2
  rw [hs] at b3
  have b1 : f_behind_in [.d (encG g), .d (encT p), .d (encT x)] S = some (.d (encT q), S) := b1
  have b2 : f_behind_in [.d (encG g), .d (encT p), .d (encT z)] S = some (.d (encT r), S) := b2
  have b3 : f_behind_in [.d (encG g), .d (encT r), .d (encT y)] S = some (.d (encT s), S) := b3
  simp [b_parts_in, mSeq, mSet, mPar, mFn, mTup, mCons, mNil, mVar, getV, env0, datas, show few 2 = true from rfl, show few 4 = true from rfl, cs, b1, b2, b3, mRet, outW]
theorem four_parts_s (hx : Pile g h x) (hy : Pile g h y) (hz : Pile g h z) (ht : Pile g h t) (e : lst (fr g h) (x ++ y) = lst (fr g h) (z ++ t)) : f_four_parts [.d (encG g), .d (encT x), .d (encT y), .d (encT z), .d (encT t)] S = some (.d (.tuple [encT p, encT q, encT r, encT s]), S) := by
  unfold f_four_parts
  rw [fnM_at rfl]
  have nf : f_need_four [.d (encG g), .d (.tuple [encT x, encT y, encT z, encT t])] S = some (.d .none, S) := need_four_s g h [x, y, z, t] (by
    intro w hw
    simp only [List.mem_cons, List.not_mem_nil, or_false] at hw
    rcases hw with rfl | rfl | rfl | rfl <;> assumption) S
  have aa := are_alike_in_s g h x y z t (by omega) (by omega) (by omega) (by have := ht.len; omega) S
  rw [decide_eq_true e] at aa
  have nj : f_need_joins [.d (encG g), .d (encT x), .d (encT y), .d (encT z), .d (encT t)] S = some (.d .none, S) := by
    unfold f_need_joins
    rw [fnM_at rfl]
    simp [b_need_joins, mSeq, mDo, mIfS, mNot, mBool, mFn, mTup, mCons, mNil, mVar, getV, env0, datas, show few 4 = true from rfl, nf, aa, mNext]
  have ps := parts_in_s g h x y z p q r s lx ly lz S hp hq hr hs (.d (encT t))
  simp [b_four_parts, mSeq, mDo, mFn, mCons, mNil, mVar, getV, env0, nj, ps, mRet, outW]
end
end PL
set_option linter.all false
set_option maxRecDepth 100000
/-! P21: need_one, tops, pointed. -/
namespace PL
open PySem Ev LW Tr
theorem need_one_s (g : Gr) (h : OkG g) (w : List Nat) (hw : Pile g h w) (S : Sto) : f_need_one [.d (encG g), .d (encT w)] S = some (.d .none, S) := by
  unfold f_need_one
  rw [fnM_at rfl]
  simp [b_need_one, mSeq, mDo, mFn, mCons, mNil, mVar, getV, env0, need_letters_s g h, need_pile_s g h w hw]
/-- all behind it are free with it -/
def isTop (g : Gr) (w : List Nat) (i : Nat) : Bool := (w.drop (i + 1)).all fun own => frB g (w.getD i 0) own
def topsW (g : Gr) (w : List Nat) : List Nat := ((List.range w.length).filter (isTop g w)).map fun i => w.getD i 0
theorem c_tops_s (g : Gr) (w : List Nat) (x z : Option Wv) (i : Nat) (S : Sto) (hi : i < w.length) (hl : w.length < 100000) :
    c_tops_in_1 [some (.d (encG g)), some (.d (encT w)), x, some (.d (nI i)), some (.d (nI (w.getD i 0))), z] S = some ((w.drop (i + 1)).map fun own => .bool (frB g (w.getD i 0) own), S) := by
  unfold c_tops_in_1
  have st := sl_from true w (i + 1) hi
  have st : dSl (encT w) (some ((i : Int) + 1)) none = some (encT (w.drop (i + 1))) := st
  have a1 : dAdd (nI i) (.int 1) = some (.int ((i : Int) + 1)) := rfl
  rw [mLc_onm nI (w.drop (i + 1)) (src := srcL (wI (w.drop (i + 1)))) (n := (w.drop (i + 1)).length + 1) (it_w (t := true) (by simp [mSl, mVar, getV, mNoP, mPart, mBin, mC, rd, a1, st, -List.length_drop]; rfl)) (fun _ _ => rfl) rfl (by rw [List.length_drop]; omega) (fun a => [some (.d (encG g)), some (.d (encT w)), x, some (.d (nI i)), some (.d (nI (w.getD i 0))), some (.d (nI a))]) (fun b => .bool (frB g (w.getD i 0) b)) (fun _ _ => rfl) fun a _ => is_free_s g (w.getD i 0) a S]
theorem tops_in_s (g : Gr) (w : List Nat) (hl : w.length < 100000) (S : Sto) : f_tops_in [.d (encG g), .d (encT w)] S = some (.d (encL (topsW g w)), S) := by
  unfold f_tops_in
  rw [fnM_at rfl]
  have hloop : ∃ ρ' S', l_tops_in_1 [some (.d (encG g)), some (.d (encT w)), some (.r S.length), none, none, none] (S ++ [.lst []]) = some (.nx, ρ', S') ∧ (∃ x y, ρ' = [some (.d (encG g)), some (.d (encT w)), some (.r S.length), x, y, none] ∧ S' = S ++ [.lst (wI (topsW g w))]) := by
    unfold l_tops_in_1
    have := mFor_inv (mi := mEnum (mVar 1)) (f := gT (gsC (gN 3) (gsC (gN 4) gsN))) (b := l_tops_in_1b) (ρ := [some (.d (encG g)), some (.d (encT w)), some (.r S.length), none, none, none]) (S := S ++ [.lst []]) ((List.range w.length).map (enE w)) (src := srcE (srcL (wI w))) (n := w.length + 1) (it_en (t := true) rfl) (fun i S => src_en w i S) (by rw [List.length_map, List.length_range])
      (fun i ρ S' => ∃ x y, ρ = [some (.d (encG g)), some (.d (encT w)), some (.r S.length), x, y, none] ∧ S' = S ++ [.lst (wI (((List.range i).filter (isTop g w)).map fun i => w.getD i 0))]) ⟨none, none, rfl, rfl⟩ ?_
    · simpa [topsW] using this
    · rintro i hi ρ S' ⟨x, y, rfl, rfl⟩
      have hi' : i < w.length := by simpa using hi
      have ed : ((List.range w.length).map (enE w))[i] = enE w i := by simp
      refine ⟨[some (.d (encG g)), some (.d (encT w)), some (.r S.length), some (.d (nI i)), some (.d (nI (w.getD i 0))), none], _, _, by rw [ed]; rfl, ?_, some (.d (nI i)), some (.d (nI (w.getD i 0))), rfl, rfl⟩
      have ct := c_tops_s g w (some (.r S.length)) none i (S ++ [.lst (wI (((List.range i).filter (isTop g w)).map fun i => w.getD i 0))]) hi' hl
      have ha := all_map (fun own => frB g (w.getD i 0) own) (w.drop (i + 1))
      have eI : ((w.drop (i + 1)).all fun own => frB g (w.getD i 0) own) = isTop g w i := rfl
      rw [eI] at ha
      have fe : few ((wI (((List.range i).filter (isTop g w)).map fun i => w.getD i 0)).length) = true := few_le (by
        rw [wI_len, List.length_map]
        have := List.length_filter_le (isTop g w) (List.range i)
        rw [List.length_range] at this
        omega)
      unfold l_tops_in_1b
      rw [List.range_succ, List.filter_append, List.map_append, wI_app]
      generalize hX : (((List.range i).filter (isTop g w)).map fun i => w.getD i 0) = X at *
      cases q : isTop g w i with
      | true =>
        have ef : List.filter (isTop g w) [i] = [i] := by simp [q]
        rw [q] at ha
        rw [ef]
        have e2 : wI ([i].map fun i => w.getD i 0) = [nI (w.getD i 0)] := rfl
        rw [e2]
        simp [mIfS, mBool, mCall, mCons, mNil, mFr, ct, rds, rd, ha, mDo, mApp, mVar, getV, st_get0, st_set0, datW, fe, -List.map_drop, -List.getD_eq_getElem?_getD]
      | false =>
        have ef : List.filter (isTop g w) [i] = [] := by simp [q]
        rw [q] at ha
        rw [ef, List.map_nil, show wI [] = [] from rfl, List.append_nil]
        simp [mIfS, mBool, mCall, mCons, mNil, mFr, ct, rds, rd, ha, mNext, -List.map_drop, -List.getD_eq_getElem?_getD]
  obtain ⟨ρ', S', h1, x, y, rfl, rfl⟩ := hloop
  simp [b_tops_in, env0, mRet, mSeq, mSet, mDo, mNext, mNever, mIfS, mAsg, mUnp, mPar, mPar3, mBin, mIf, mBool, mAnd, mOr, mNot, mAndV, mOrV, mNotV, mVar, getV, mTup, mFr, mNew, mDisp, mCons, mNil, mC, mNeg, mFn, mCall, rds, rd, datas, datW, dIx, ixD, outW, mIsa, mChain, mSl, mNoP, mPart, mIt, srcW, mEnum, gN, gT, gsC, gsN, mRetN, mBrk, h1, encL, show few 0 = true from rfl]
theorem is_pointed_s (g : Gr) (h : OkG g) (w : List Nat) (hw : Pile g h w) (S : Sto) : f_is_pointed [.d (encG g), .d (encT w)] S = some (.d (.bool (decide ((topsW g w).length = 1))), S) := by
  unfold f_is_pointed
  rw [fnM_at rfl]
  have ts : f_tops_in [.d (encG g), .d (encT w)] S = some (.d (encL (topsW g w)), S) := tops_in_s g w (by have := hw.len; omega) S
  have ln : dLen [encL (topsW g w)] = some (.int ((topsW g w).length : Nat)) := len_sq false (topsW g w)
  have e1 : dEq (.int ((topsW g w).length : Nat)) (.int 1) = some (.bool (decide ((topsW g w).length = 1))) := dEq_nat _ 1
  simp [b_is_pointed, mSeq, mDo, mFn, mCons, mNil, mVar, getV, env0, need_letters_s g h, need_pile_s g h w hw, mRet, mBin, mCall, ts, rds, rd, ln, mC, e1, outW]
end PL
set_option linter.all false
set_option maxRecDepth 100000
/-! P22: numbers of free sets with signs. -/
namespace PL
open PySem Ev LW Tr
theorem need_whole_s (a lo hi : Int) (h1 : lo ≤ a) (h2 : a ≤ hi) (S : Sto) : f_need_whole [.d (.int a), .d (.int lo), .d (.int hi)] S = some (.d .none, S) := by
  unfold f_need_whole
  rw [fnM_at rfl]
  have e : decide (lo ≤ a ∧ a ≤ hi) = true := decide_eq_true ⟨h1, h2⟩
  have iw := is_whole_s a lo hi S
  rw [e] at iw
  simp [b_need_whole, mIfS, mNot, mBool, mFn, mCons, mNil, mVar, getV, env0, iw, mNext]
def mxN (x : Nat) (xs : List Nat) : Nat := xs.foldl (fun a y => if a < y then y else a) x
theorem foldMx : ∀ (xs : List Nat) (x : Nat), foldD (fun y a => cmpD a y) (nI x) (wI xs) = nI (mxN x xs)
  | [], _ => rfl
  | y :: xs, x => by
    show foldD (fun y a => cmpD a y) (if cmpD (nI x) (nI y) then nI y else nI x) (wI xs) = nI (mxN (if x < y then y else x) xs)
    have e : cmpD (nI x) (nI y) = decide (x < y) := by unfold nI; rw [cmpD, ilt_nat]
    rw [e]
    by_cases q : x < y
    · simp only [q, decide_true, if_true]; exact foldMx xs y
    · simp only [q, decide_false, if_false, Bool.false_eq_true]; exact foldMx xs x
theorem homog_wI (x : Nat) (xs : List Nat) : homog (wI (x :: xs)) = true := by
  show homog (nI x :: wI xs) = true
  unfold homog
  simp only [List.all_cons, Bool.and_eq_true, List.all_eq_true]
  refine ⟨⟨rfl, rfl⟩, fun q hq => ?_⟩
  obtain ⟨a, _, rfl⟩ := List.mem_map.mp hq
  exact ⟨rfl, rfl⟩
theorem dMax_w (x : Nat) (xs : List Nat) : dMaxL [encL (x :: xs)] = some (nI (mxN x xs)) := by
  show (if homog (wI (x :: xs)) then some (foldD (fun y a => cmpD a y) (nI x) (wI xs)) else none) = _
  rw [if_pos (homog_wI x xs), foldMx]
end PL
set_option linter.all false
set_option maxRecDepth 100000
/-! P23: sign_in. -/
namespace PL
open PySem Ev LW Tr
def szs (g : Gr) (w : List Nat) : List Nat := (setsOf g w).map List.length
def sgnI (g : Gr) (w : List Nat) : List Int := (List.range ((match szs g w with | [] => 0 | x :: xs => mxN x xs) + 1)).map fun k => ((szs g w).count k : Int) * (if k % 2 = 0 then 1 else -1)
def encI (is : List Int) : PyData := .tuple (is.map PyData.int)
theorem setsR_pos (g : Gr) : ∀ (w : List Nat) (fs : List (List Nat)), fs ≠ [] → setsR g w fs ≠ []
  | [], _, h => h
  | a :: w, fs, h => setsR_pos g w _ (by unfold setS; simp [h])
theorem szs_ne (g : Gr) (w : List Nat) : szs g w ≠ [] := by
  unfold szs setsOf
  intro h
  have h1 := congrArg List.length h
  rw [List.length_map, isort_len] at h1
  exact setsR_pos g w [[]] (by simp) (List.length_eq_zero_iff.mp h1)
theorem count_wI (k : Nat) : ∀ w : List Nat, (w.map fun a : Nat => (a : Int)).count (k : Int) = w.count k
  | [] => rfl
  | a :: w => by
    rw [List.map_cons, List.count_cons, List.count_cons, count_wI k w]
    congr 1
    by_cases q : a = k
    · simp [q]
    · have : ¬ (a : Int) = k := by omega
      simp [q, this]
theorem mxN_le (b : Nat) : ∀ (xs : List Nat) (x : Nat), x ≤ b → (∀ y ∈ xs, y ≤ b) → mxN x xs ≤ b
  | [], x, h, _ => h
  | y :: xs, x, h, h' => by
    show mxN (if x < y then y else x) xs ≤ b
    refine mxN_le b xs _ ?_ fun z hz => h' z (List.mem_cons_of_mem _ hz)
    split
    · exact h' y List.mem_cons_self
    · exact h
theorem szs_le (g : Gr) (w : List Nat) : ∀ k ∈ szs g w, k ≤ w.length := fun k hk => by
  unfold szs setsOf at hk
  obtain ⟨x, hx, rfl⟩ := List.mem_map.mp hk
  have hx := (isort_perm wlt (setsR g w [[]])).mem_iff.mp hx
  have := setsR_mem_len g w [[]] 0 (by simp) x hx
  omega
theorem sign_in_s (g : Gr) (w : List Nat) (hw : w.length ≤ 8) (S : Sto) : f_sign_in [.d (encG g), .d (encT w)] S = some (.d (encI (sgnI g w)), S) := by
  unfold f_sign_in
  rw [fnM_at rfl]
  have ss : f_sets_in [.d (encG g), .d (encT w)] S = some (.d (.list ((setsOf g w).map encT)), S) := sets_in_s g w hw S
  have sl : (setsOf g w).length ≤ 256 := by
    unfold setsOf
    rw [isort_len]
    refine Nat.le_trans (setsR_len g w [[]]) ?_
    rw [List.length_singleton, Nat.mul_one]
    have q : 2 ^ w.length ≤ 2 ^ 8 := Nat.pow_le_pow_right (by decide) hw
    exact q
  have c1 : c_sign_in_1 [some (.d (encG g)), some (.d (encT w)), none, none, none] S = some (wI (szs g w), S) := by
    unfold c_sign_in_1
    rw [mLc_onm encT (setsOf g w) (src := srcL ((setsOf g w).map encT)) (n := (setsOf g w).length + 1) (by
      have := it_l (ρ := [some (.d (encG g)), some (.d (encT w)), none, none, none]) (S := S) (ds := (setsOf g w).map encT) (m := mFn f_sets_in (mCons (mVar 0) (mCons (mVar 1) mNil))) (by simp [mFn, mCons, mNil, mVar, getV, ss])
      rw [List.length_map] at this
      exact this) (fun _ _ => rfl) rfl (by omega) (fun x => [some (.d (encG g)), some (.d (encT w)), none, some (.d (encT x)), none]) (fun x => nI x.length) (fun _ _ => rfl) fun x _ => by
        have ln : dLen [encT x] = some (.int (x.length : Nat)) := len_sq true x
        simp [mCall, mCons, mNil, mVar, getV, rds, rd, ln, nI]]
    unfold szs wI
    rw [List.map_map]
    rfl
  have hne := szs_ne g w
  have hle : ∀ k, (szs g w).count k ≤ 256 := fun k => by
    refine Nat.le_trans List.count_le_length ?_
    unfold szs
    rw [List.length_map]
    exact sl
  have hmx : (match szs g w with | [] => 0 | x :: xs => mxN x xs) < 9000 := by
    have hz := szs_le g w
    cases q : szs g w with
    | nil => exact absurd q hne
    | cons x xs =>
      rw [q] at hz
      have := mxN_le w.length xs x (hz x List.mem_cons_self) fun y hy => hz y (List.mem_cons_of_mem _ hy)
      show mxN x xs < 9000
      omega
  have c2 : c_sign_in_2 [some (.d (encG g)), some (.d (encT w)), some (.d (encL (szs g w))), none, none] S = some ((sgnI g w).map PyData.int, S) := by
    unfold c_sign_in_2
    rw [mLc_onm nI (List.range ((match szs g w with | [] => 0 | x :: xs => mxN x xs) + 1)) (src := srcR 0 ((match szs g w with | [] => 0 | x :: xs => mxN x xs) + 1)) (n := (match szs g w with | [] => 0 | x :: xs => mxN x xs) + 1 + 1) (it_rg (by
        cases q : szs g w with
        | nil => exact absurd q hne
        | cons x xs =>
          have dm := dMax_w x xs
          have a1 : dAdd (nI (mxN x xs)) (.int 1) = some (.int ((mxN x xs : Int) + 1)) := rfl
          simp [mCons, mNil, mBin, mCall, mVar, getV, rds, rd, dm, mC, a1]) (by omega)) (fun i S => src_rg _ i S) (by rw [List.length_range]) (by rw [List.length_range]; omega) (fun k => [some (.d (encG g)), some (.d (encT w)), some (.d (encL (szs g w))), none, some (.d (nI k))]) (fun k => .int (((szs g w).count k : Int) * (if k % 2 = 0 then 1 else -1))) (fun _ _ => rfl) fun k _ => ?_]
    · unfold sgnI
      rw [List.map_map]
      rfl
    · have iw := intsD_wI (szs g w)
      have cw := count_wI k (szs g w)
      have hk := hle k
      have md : dMod (nI k) (.int 2) = some (.int ((k : Int).fmod 2)) := rfl
      have e2 : dEq (.int ((k : Int).fmod 2)) (.int 0) = some (.bool (decide (k % 2 = 0))) := by
        have : ((k : Int).fmod 2) = ((k % 2 : Nat) : Int) := by rw [Int.fmod_eq_emod_of_nonneg _ (by decide)]; rfl
        rw [this]
        exact dEq_nat (k % 2) 0
      have ci : mCnt' (mVar 2) (mVar 4) [some (.d (encG g)), some (.d (encT w)), some (.d (encL (szs g w))), none, some (.d (nI k))] S = some (.d (.int ((szs g w).count k : Nat)), S) := by
        simp [mCnt', mVar, getV, rd, encL, nI, iw, cw]
      have sm : isSmall ((szs g w).count k : Nat) = true := by unfold isSmall; rw [Nat.blt_eq]; omega
      have di : dInt [nI k] = some (nI k) := rfl
      by_cases q : k % 2 = 0
      · have mu : dMul (.int ((szs g w).count k : Nat)) (.int 1) = some (.int (((szs g w).count k : Int) * 1)) := by simp [dMul, sm]
        rw [decide_eq_true q] at e2
        simp [mBin, ci, mIf, mBool, mCall, mCons, mNil, mVar, getV, rds, rd, di, mC, md, e2, mu, q]
      · have mu : dMul (.int ((szs g w).count k : Nat)) (.int (-1)) = some (.int (((szs g w).count k : Int) * (-1))) := by simp [dMul, sm]
        rw [decide_eq_false q] at e2
        simp [mBin, ci, mIf, mBool, mCall, mCons, mNil, mVar, getV, rds, rd, di, mC, md, e2, mNeg, mu, q]
  simp [b_sign_in, mSeq, mSet, mFr, env0, c1, mRet, mCall, mCons, mNil, show c_sign_in_2 [some (.d (encG g)), some (.d (encT w)), some (.d (.list (wI (szs g w)))), none, none] S = _ from c2, rds, rd, dTuple, outW]
  rfl
end PL
set_option linter.all false
set_option maxRecDepth 100000
/-! P24: numbers of piles by the signs. -/
namespace PL
open PySem Ev LW Tr
/-- what is taken off, for at = 1 .. m -/
def offC (sg fd : List Int) (k : Nat) : Nat → Int
  | 0 => if k = 0 then 1 else 0
  | m + 1 => offC sg fd k m - sg.getD (m + 1) 0 * fd.getD (k - (m + 1)) 0
def cntC (sg : List Int) : Nat → List Int
  | 0 => []
  | k + 1 => cntC sg k ++ [offC sg (cntC sg k) k (min k (sg.length - 1))]
theorem cntC_len (sg : List Int) : ∀ k, (cntC sg k).length = k
  | 0 => rfl
  | k + 1 => by rw [cntC, List.length_append, cntC_len sg k]; rfl
theorem it_rg2 {ρ : Env'} {S : Sto} {m : Nat} {mm : M (List Wv)} (h : mm ρ S = some ([.d (.int 1), .d (.int ((m : Int) + 1))], S)) (hn : m < 100000) : mRg2 mm ρ S = some ((srcR 1 m, m + 1), S) := by
  unfold mRg2
  rw [h]
  have h1 : rgOk 1 = true := rfl
  have h2 : rgOk ((m : Int) + 1) = true := by unfold rgOk; rw [Nat.blt_eq]; omega
  have h3 : ((m : Int) + 1 - 1).toNat = m := by omega
  simp only [Option.bind_some, h1, h2, h3, Bool.and_self, if_true]
theorem src_rg1 (n i : Nat) (S : Sto) : srcR 1 n i S = srcL ((List.range n).map fun j => nI (j + 1)) i S := by
  rw [srcR_L]
  unfold rgL
  congr 1
  exact List.map_congr_left fun j _ => by
    unfold nI
    congr 1
    omega
def encIL (is : List Int) : PyData := .list (is.map PyData.int)
theorem ix_I (is : List Int) (i : Nat) (h : i < is.length) (t : Bool) : dIx (if t then encI is else encIL is) (.int (i : Nat)) = some (.int (is.getD i 0)) := by
  have e : ixD (is.map PyData.int) (i : Int) = some (.int (is.getD i 0)) := by
    rw [ixD_nat, List.getElem?_map, List.getElem?_eq_getElem h, List.getD_eq_getElem?_getD, List.getElem?_eq_getElem h]
    rfl
  cases t <;> exact e
theorem l_counts_1 (g : Gr) (sg fd : List Int) (k : Nat) (M : Option Wv) (x : Option Wv) (S T : Sto) (hs : ∀ i ∈ sg, isSmall i = true) (hne : sg ≠ []) (hsl : sg.length < 9000) (hf : fd.length = k) (hk : k < 9000) (hT : T = S ++ [.lst (fd.map PyData.int)]) :
    ∃ y, l_counts_in_1 [some (.d (encG g)), M, some (.d (encI sg)), some (.r S.length), some (.d (nI k)), some (.d (.int (if k = 0 then 1 else 0))), x] T = some (.nx, [some (.d (encG g)), M, some (.d (encI sg)), some (.r S.length), some (.d (nI k)), some (.d (.int (offC sg fd k (min k (sg.length - 1))))), y], T) := by
  unfold l_counts_in_1
  have ln : dLen [encI sg] = some (.int (sg.length : Nat)) := by
    show some (PyData.int ((sg.map PyData.int).length : Nat)) = _
    rw [List.length_map]
  have hp : 0 < sg.length := List.length_pos_iff.mpr hne
  have mn : dMin2 [nI k, .int ((sg.length : Int) - 1)] = some (.int ((min k (sg.length - 1) : Nat) : Int)) := by
    show some (PyData.int (if ilt ((sg.length : Int) - 1) k then ((sg.length : Int) - 1) else k)) = _
    rw [ilt_eq]
    congr 2
    by_cases q : ((sg.length : Int) - 1) < k
    · simp only [q, decide_true, if_true]; omega
    · simp only [q, decide_false, if_false, Bool.false_eq_true]; omega
  have := mFor_inv (mi := mRg2 (mCons (mC (.int 1)) (mCons (mBin dAdd (mCall dMin2 (mCons (mVar 4) (mCons (mBin dSub (mCall dLen (mCons (mVar 2) mNil)) (mC (.int 1))) mNil))) (mC (.int 1))) mNil))) (f := gN 6) (b := l_counts_in_1b) (ρ := [some (.d (encG g)), M, some (.d (encI sg)), some (.r S.length), some (.d (nI k)), some (.d (.int (if k = 0 then 1 else 0))), x]) (S := T) ((List.range (min k (sg.length - 1))).map fun j => nI (j + 1)) (src := srcR 1 (min k (sg.length - 1))) (n := min k (sg.length - 1) + 1) ?_ (fun i S => src_rg1 _ i S) (by rw [List.length_map, List.length_range])
    (fun i ρ S' => ∃ y, ρ = [some (.d (encG g)), M, some (.d (encI sg)), some (.r S.length), some (.d (nI k)), some (.d (.int (offC sg fd k i))), y] ∧ S' = T) ⟨x, rfl, rfl⟩ ?_
  · obtain ⟨ρ', S', h1, y, h2, h3⟩ := this
    rw [List.length_map, List.length_range] at h2
    exact ⟨y, by rw [h1, h2, h3]⟩
  · exact it_rg2 (by simp [mCons, mNil, mC, mBin, mCall, mVar, getV, rds, rd, ln, dSub, mn, dAdd]) (by omega)
  · rintro i hi ρ S' ⟨y, rfl, rfl⟩
    have hi' : i < min k (sg.length - 1) := by simpa using hi
    have ed : ((List.range (min k (sg.length - 1))).map fun j => nI (j + 1))[i] = nI (i + 1) := by simp
    refine ⟨[some (.d (encG g)), M, some (.d (encI sg)), some (.r S.length), some (.d (nI k)), some (.d (.int (offC sg fd k i))), some (.d (nI (i + 1)))], _, S', by rw [ed]; rfl, ?_, some (.d (nI (i + 1))), rfl, rfl⟩
    have x1 : dIx (encI sg) (nI (i + 1)) = some (.int (sg.getD (i + 1) 0)) := ix_I sg (i + 1) (by omega) true
    have x2 : dIx (.list (fd.map PyData.int)) (nI (k - (i + 1))) = some (.int (fd.getD (k - (i + 1)) 0)) := ix_I fd (k - (i + 1)) (by omega) false
    have sb : dSub (nI k) (nI (i + 1)) = some (nI (k - (i + 1))) := by
      show some (PyData.int ((k : Int) - ((i + 1 : Nat) : Int))) = _
      unfold nI
      congr 2
      omega
    have sm : isSmall (sg.getD (i + 1) 0) = true := by
      have hb : i + 1 < sg.length := by omega
      rw [List.getD_eq_getElem?_getD, List.getElem?_eq_getElem hb]
      exact hs _ (List.getElem_mem hb)
    have mu : dMul (.int (sg.getD (i + 1) 0)) (.int (fd.getD (k - (i + 1)) 0)) = some (.int (sg.getD (i + 1) 0 * fd.getD (k - (i + 1)) 0)) := by
      show (if isSmall (sg.getD (i + 1) 0) || isSmall (fd.getD (k - (i + 1)) 0) then _ else _) = _
      rw [sm]
      rfl
    have sb2 : dSub (.int (offC sg fd k i)) (.int (sg.getD (i + 1) 0 * fd.getD (k - (i + 1)) 0)) = some (.int (offC sg fd k (i + 1))) := rfl
    have hT' : rd S' (.r S.length) = some (.list (fd.map PyData.int)) := by subst hT; simp [rd]
    unfold l_counts_in_1b
    subst hT
    simp [mSet, mBin, mVar, getV, rd, x1, sb, x2, mu, sb2, st_get0, -List.getD_eq_getElem?_getD]
end PL
set_option linter.all false
set_option maxRecDepth 100000
/-! P25: counts_in, pile_counts. -/
namespace PL
open PySem Ev LW Tr
theorem sgnI_len (g : Gr) (w : List Nat) (hw : w.length ≤ 8) : (sgnI g w).length ≤ 9 ∧ sgnI g w ≠ [] := by
  have hz := szs_le g w
  have hne := szs_ne g w
  have hl : (sgnI g w).length = (match szs g w with | [] => 0 | x :: xs => mxN x xs) + 1 := by
    unfold sgnI
    rw [List.length_map, List.length_range]
    all_goals rfl
  cases q : szs g w with
  | nil => exact absurd q hne
  | cons x xs =>
    rw [q] at hz hl
    have := mxN_le w.length xs x (hz x List.mem_cons_self) fun y hy => hz y (List.mem_cons_of_mem _ hy)
    have hl : (sgnI g w).length = mxN x xs + 1 := hl
    refine ⟨by omega, fun z => ?_⟩
    rw [z] at hl
    cases hl
theorem setsOf_len (g : Gr) (w : List Nat) (hw : w.length ≤ 8) : (setsOf g w).length ≤ 256 := by
  unfold setsOf
  rw [isort_len]
  refine Nat.le_trans (setsR_len g w [[]]) ?_
  rw [List.length_singleton, Nat.mul_one]
  have q : 2 ^ w.length ≤ 2 ^ 8 := Nat.pow_le_pow_right (by decide) hw
  exact q
theorem sgnI_small (g : Gr) (w : List Nat) (hw : w.length ≤ 8) : ∀ i ∈ sgnI g w, isSmall i = true := fun i hi => by
  unfold sgnI at hi
  obtain ⟨k, _, rfl⟩ := List.mem_map.mp hi
  have h1 : (szs g w).count k ≤ 256 := by
    refine Nat.le_trans List.count_le_length ?_
    unfold szs
    rw [List.length_map]
    exact setsOf_len g w hw
  unfold isSmall
  rw [Nat.blt_eq]
  split <;> omega
abbrev sgA (g : Gr) : List Int := sgnI g (List.range g.n)
theorem counts_in_s (g : Gr) (h : OkG g) (m : Nat) (hm : m < 8000) (S : Sto) : f_counts_in [.d (encG g), .d (nI m)] S = some (.d (encIL (cntC (sgA g) (m + 1))), S) := by
  unfold f_counts_in
  rw [fnM_at rfl]
  have hr : (List.range g.n).length ≤ 8 := by rw [List.length_range]; exact h.n8
  have si := sign_in_s g (List.range g.n) hr S
  obtain ⟨l1, l2⟩ := sgnI_len g (List.range g.n) hr
  have l1 : (sgA g).length ≤ 9 := l1
  have sm := sgnI_small g (List.range g.n) hr
  have hloop : ∃ ρ' S', l_counts_in_2 [some (.d (encG g)), some (.d (nI m)), some (.d (encI (sgA g))), some (.r S.length), none, none, none] (S ++ [.lst []]) = some (.nx, ρ', S') ∧ (∃ x y z, ρ' = [some (.d (encG g)), some (.d (nI m)), some (.d (encI (sgA g))), some (.r S.length), x, y, z] ∧ S' = S ++ [.lst ((cntC (sgA g) (m + 1)).map PyData.int)]) := by
    unfold l_counts_in_2
    have := mFor_inv (mi := mRg1 (mCons (mBin dAdd (mVar 1) (mC (.int 1))) mNil)) (f := gN 4) (b := l_counts_in_2b) (ρ := [some (.d (encG g)), some (.d (nI m)), some (.d (encI (sgA g))), some (.r S.length), none, none, none]) (S := S ++ [.lst []]) ((List.range (m + 1)).map nI) (src := srcR 0 (m + 1)) (n := m + 1 + 1) (it_rg (by simp [mCons, mNil, mBin, mVar, getV, mC, rd, dAdd, nI]) (by omega)) (fun i S => src_rg _ i S) (by rw [List.length_map, List.length_range])
      (fun i ρ S' => ∃ x y z, ρ = [some (.d (encG g)), some (.d (nI m)), some (.d (encI (sgA g))), some (.r S.length), x, y, z] ∧ S' = S ++ [.lst ((cntC (sgA g) i).map PyData.int)]) ⟨none, none, none, rfl, rfl⟩ ?_
    · simpa using this
    · rintro i hi ρ S' ⟨x, y, z, rfl, rfl⟩
      have hi' : i < m + 1 := by simpa using hi
      have ed : ((List.range (m + 1)).map nI)[i] = nI i := by simp
      obtain ⟨z', hz⟩ := l_counts_1 g (sgA g) (cntC (sgA g) i) i (some (.d (nI m))) z S (S ++ [.lst ((cntC (sgA g) i).map PyData.int)]) sm l2 (by omega) (cntC_len _ _) (by omega) rfl
      have e0 : dEq (nI i) (.int 0) = some (.bool (decide (i = 0))) := dEq_nat i 0
      have fe : few ((cntC (sgA g) i).map PyData.int).length = true := few_le (by rw [List.length_map, cntC_len]; omega)
      refine ⟨[some (.d (encG g)), some (.d (nI m)), some (.d (encI (sgA g))), some (.r S.length), some (.d (nI i)), y, z], [some (.d (encG g)), some (.d (nI m)), some (.d (encI (sgA g))), some (.r S.length), some (.d (nI i)), some (.d (.int (offC (sgA g) (cntC (sgA g) i) i (min i ((sgA g).length - 1))))), z'], S ++ [.lst ((cntC (sgA g) (i + 1)).map PyData.int)], by rw [ed]; rfl, ?_, some (.d (nI i)), _, z', rfl, rfl⟩
      have ea : (cntC (sgA g) (i + 1)).map PyData.int = (cntC (sgA g) i).map PyData.int ++ [.int (offC (sgA g) (cntC (sgA g) i) i (min i ((sgA g).length - 1)))] := by
        rw [cntC, List.map_append]; rfl
      rw [ea]
      unfold l_counts_in_2b
      have e5 : mIf (mBool (mBin dEq (mVar 4) (mC (.int 0)))) (mC (.int 1)) (mC (.int 0)) [some (.d (encG g)), some (.d (nI m)), some (.d (encI (sgA g))), some (.r S.length), some (.d (nI i)), y, z] (S ++ [.lst ((cntC (sgA g) i).map PyData.int)]) = some (.d (.int (if i = 0 then 1 else 0)), S ++ [.lst ((cntC (sgA g) i).map PyData.int)]) := by
        by_cases q : i = 0
        · subst q; rfl
        · rw [decide_eq_false q] at e0
          simp [mIf, mBool, mBin, mVar, getV, mC, rd, e0, q]
      simp only [mSeq, mSet, e5, Option.map_some, Option.bind_some, List.set_cons_succ, List.set_cons_zero, hz, mDo, mApp, mVar, getV, List.getElem?_cons_succ, List.getElem?_cons_zero, Option.join_some, st_get0, st_set0, datW, fe, if_true, List.set_cons_zero]
  obtain ⟨ρ', S', h1, x, y, z, rfl, rfl⟩ := hloop
  have el := every_letter_s g h S
  simp [b_counts_in, mSeq, mPar, mFn, mCons, mNil, mVar, getV, env0, el, si, mNew, mDisp, datas, show few 0 = true from rfl, h1, mRet, outW, st_take, encIL]
theorem pile_counts_s (g : Gr) (h : OkG g) (m : Nat) (hm : m ≤ 60) (S : Sto) : f_pile_counts [.d (encG g), .d (nI m)] S = some (.d (encI (cntC (sgA g) (m + 1))), S) := by
  unfold f_pile_counts
  rw [fnM_at rfl]
  have nw := need_whole_s (m : Nat) 0 60 (by omega) (by omega) S
  have nw : f_need_whole [.d (nI m), .d (.int 0), .d (.int 60)] S = some (.d .none, S) := nw
  simp [b_pile_counts, mSeq, mDo, mFn, mCons, mNil, mVar, getV, mC, env0, need_letters_s g h, nw, mRet, mCall, counts_in_s g h m (by omega), rds, rd, encIL, dTuple, outW, encI]
end PL
set_option linter.all false
set_option maxRecDepth 100000
/-! P26: loops over a cell; piles_of_length. -/
namespace Ev
open PySem
theorem goLc_onC {α : Type} {f : Wv → Env' → Option Env'} {mt : M Bool} {me : M Wv} {ρ0 : Env'} {S : Sto} {src : Src} (e : α → PyData) {r : α → Env'} {p : α → Bool} {h : α → PyData} (xs : List α) (hs : ∀ i, src i S = some (xs.map e)[i]?) (hf : ∀ x ∈ xs, f (.d (e x)) ρ0 = some (r x)) (ht : ∀ x ∈ xs, mt (r x) S = some (p x, S)) (he : ∀ x ∈ xs, p x = true → me (r x) S = some (.d (h x), S)) :
    ∀ (k i : Nat), i + k = xs.length → goLc src f mt me ρ0 (k + 1) i S = some (((xs.drop i).filter p).map h, S)
  | 0, i, q => by
    have e1 : (xs.map e)[i]? = none := List.getElem?_eq_none (by rw [List.length_map]; omega)
    rw [goLc_succ, hs, e1, List.drop_eq_nil_of_le (by omega)]
    rfl
  | k + 1, i, q => by
    have hi : i < xs.length := by omega
    have m : xs[i] ∈ xs := List.getElem_mem hi
    have ih := goLc_onC e xs hs hf ht he k (i + 1) (by omega)
    rw [goLc_succ, hs, List.getElem?_map, List.getElem?_eq_getElem hi, Option.map_some]
    simp only [Option.bind_some, hf _ m, ht _ m]
    rw [List.drop_eq_getElem_cons hi, List.filter_cons]
    by_cases hp : p xs[i] = true
    · simp only [hp, if_true, he _ m hp, Option.bind_some, datW]
      rw [ih]
      rfl
    · simp only [hp, if_false, Bool.false_eq_true]
      exact ih
theorem mLc_onC {α : Type} (e : α → PyData) {mi : M (Src × Nat)} {vs : List Nat} {f : Wv → Env' → Option Env'} {mt : M Bool} {me : M Wv} {ρ : Env'} {S : Sto} {src : Src} {n : Nat} (xs : List α) (h1 : mi ρ S = some ((src, n), S)) (hs : ∀ i, src i S = some (xs.map e)[i]?) (hn : n = xs.length + 1) (hl : xs.length < 1000000)
    (r : α → Env') (p : α → Bool) (h : α → PyData) (hf : ∀ x ∈ xs, f (.d (e x)) (wipeE ρ vs) = some (r x)) (ht : ∀ x ∈ xs, mt (r x) S = some (p x, S)) (he : ∀ x ∈ xs, p x = true → me (r x) S = some (.d (h x), S)) :
    mLc mi vs f mt me ρ S = some ((xs.filter p).map h, S) := by
  unfold mLc
  rw [h1]
  simp only [Option.bind_some]
  subst hn
  rw [if_pos (show few (xs.length + 1) = true from Nat.ble_eq.mpr (by omega))]
  have := goLc_onC e xs hs hf ht he xs.length 0 (by omega)
  rw [List.drop_zero] at this
  exact this
/-- a for over what may change -/
theorem forGo_invC {α : Type} (e : α → PyData) {f : Wv → Env' → Option Env'} {b : MS} {src : Src} (xs : List α) (I : Nat → Env' → Sto → Prop) (hs : ∀ i ρ S, I i ρ S → src i S = some (xs.map e)[i]?)
    (step : ∀ i (hi : i < xs.length) ρ S, I i ρ S → ∃ ρ1 ρ2 S2, f (.d (e xs[i])) ρ = some ρ1 ∧ b ρ1 S = some (.nx, ρ2, S2) ∧ I (i + 1) ρ2 S2) :
    ∀ (k i : Nat) (ρ : Env') (S : Sto), i + k = xs.length → I i ρ S → ∃ ρ' S', forGo src f b (k + 1) i ρ S = some (.nx, ρ', S') ∧ I xs.length ρ' S'
  | 0, i, ρ, S, q, hI => by
    have e1 : (xs.map e)[i]? = none := List.getElem?_eq_none (by rw [List.length_map]; omega)
    refine ⟨ρ, S, by rw [forGo_succ, hs i ρ S hI, e1]; rfl, ?_⟩
    rw [show xs.length = i by omega]
    exact hI
  | k + 1, i, ρ, S, q, hI => by
    have hi : i < xs.length := by omega
    obtain ⟨ρ1, ρ2, S2, h1, h2, h3⟩ := step i hi ρ S hI
    have e0 : forGo src f b (k + 1 + 1) i ρ S = forGo src f b (k + 1) (i + 1) ρ2 S2 := by
      rw [forGo_succ, hs i ρ S hI, List.getElem?_map, List.getElem?_eq_getElem hi, Option.map_some]
      simp only [Option.bind_some, h1, h2]
    rw [e0]
    exact forGo_invC e xs I hs step k (i + 1) ρ2 S2 (by omega) h3
theorem mFor_invC {α : Type} (e : α → PyData) {mi : M (Src × Nat)} {f : Wv → Env' → Option Env'} {b : MS} {ρ : Env'} {S : Sto} {src : Src} {n : Nat} (xs : List α) (h1 : mi ρ S = some ((src, n), S)) (hn : n = xs.length + 1) (I : Nat → Env' → Sto → Prop) (hs : ∀ i ρ S, I i ρ S → src i S = some (xs.map e)[i]?) (h0 : I 0 ρ S)
    (step : ∀ i (hi : i < xs.length) ρ S, I i ρ S → ∃ ρ1 ρ2 S2, f (.d (e xs[i])) ρ = some ρ1 ∧ b ρ1 S = some (.nx, ρ2, S2) ∧ I (i + 1) ρ2 S2) :
    ∃ ρ' S', mFor mi f b ρ S = some (.nx, ρ', S') ∧ I xs.length ρ' S' := by
  unfold mFor
  rw [h1]
  simp only [Option.bind_some]
  subst hn
  exact forGo_invC e xs I hs step xs.length 0 ρ S (by omega) h0
end Ev
namespace PL
open PySem Ev LW Tr
def encPB (p : List Nat × List Nat) : PyData := .tuple [encT p.1, encT p.2]
theorem stepB_eq (g : Gr) (h : OkG g) (B : List Nat) (l : Nat) : stepB g B l = stepN (fr g h) g.n B l := rfl
/-- a row of data, or a cell that stays -/
def Row (T : Sto) (W : Wv) (ds : List PyData) : Prop := W = .d (.list ds) ∨ ∃ k, W = .r k ∧ k < T.length ∧ T[k]? = some (.lst ds)
theorem Row.it {T : Sto} {W : Wv} {ds : List PyData} (h : Row T W ds) (U : Sto) {m : M Wv} {ρ : Env'} (hm : m ρ (T ++ U) = some (W, T ++ U)) : ∃ src, mIt m ρ (T ++ U) = some ((src, ds.length + 1), T ++ U) ∧ ∀ U' i, src i (T ++ U') = some ds[i]? := by
  rcases h with rfl | ⟨k, rfl, hk, e⟩
  · refine ⟨srcL ds, ?_, fun _ _ => rfl⟩
    unfold mIt
    rw [hm]; rfl
  · have e1 : ∀ V : Sto, (T ++ V)[k]? = some (.lst ds) := fun V => by rw [List.getElem?_append_left hk]; exact e
    refine ⟨srcC k, ?_, fun U' i => ?_⟩
    · unfold mIt
      rw [hm]
      simp [srcW, e1]
    · unfold srcC
      rw [e1]
section
variable (g : Gr) (h : OkG g) (L tn : Option Wv)
def brk1 (p : List Nat × List Nat) (k : Nat) : List (List Nat × List Nat) := ((List.range k).filter fun a => !p.2.contains a).map fun a => (p.1 ++ [a], stepN (fr g h) g.n p.2 a)
theorem l_piles_1 (T : Sto) (W : Option Wv) (acc : List (List Nat × List Nat)) (p : List Nat × List Nat) (hp : p.1.length < 1000) (x : Option Wv) (ha : acc.length + 8 ≤ 100000) :
    ∃ y, l_piles_of_length_1 [some (.d (encG g)), L, W, tn, some (.r T.length), some (.d (encT p.1)), some (.d (encT p.2)), x] (T ++ [.lst (acc.map encPB)]) = some (.nx, [some (.d (encG g)), L, W, tn, some (.r T.length), some (.d (encT p.1)), some (.d (encT p.2)), y], T ++ [.lst ((acc ++ nstep (fr g h) g.n p).map encPB)]) := by
  unfold l_piles_of_length_1
  have hn := h.n8
  have ix0 : dIx (encG g) (.int 0) = some (.int (g.n : Nat)) := rfl
  have := mFor_inv (mi := mRg1 (mCons (mBin dIx (mVar 0) (mC (.int 0))) mNil)) (f := gN 7) (b := l_piles_of_length_1b) (ρ := [some (.d (encG g)), L, W, tn, some (.r T.length), some (.d (encT p.1)), some (.d (encT p.2)), x]) (S := T ++ [.lst (acc.map encPB)]) ((List.range g.n).map nI) (src := srcR 0 g.n) (n := g.n + 1) (it_rg (by simp [mCons, mNil, mBin, mVar, getV, mC, rd, ix0]) (by omega)) (fun i S => src_rg _ i S) (by rw [List.length_map, List.length_range])
    (fun i ρ S' => ∃ y, ρ = [some (.d (encG g)), L, W, tn, some (.r T.length), some (.d (encT p.1)), some (.d (encT p.2)), y] ∧ S' = T ++ [.lst ((acc ++ brk1 g h p i).map encPB)]) ⟨x, rfl, by simp [brk1]⟩ ?_
  · obtain ⟨ρ', S', h1, y, rfl, rfl⟩ := this
    rw [List.length_map, List.length_range] at h1
    exact ⟨y, h1⟩
  · rintro i hi ρ S' ⟨y, rfl, rfl⟩
    have hi' : i < g.n := by simpa using hi
    have ed : ((List.range g.n).map nI)[i] = nI i := by simp
    refine ⟨[some (.d (encG g)), L, W, tn, some (.r T.length), some (.d (encT p.1)), some (.d (encT p.2)), some (.d (nI i))], [some (.d (encG g)), L, W, tn, some (.r T.length), some (.d (encT p.1)), some (.d (encT p.2)), some (.d (nI i))], _, by rw [ed]; rfl, ?_, some (.d (nI i)), rfl, rfl⟩
    have ni : dNin (nI i) (encT p.2) = some (.bool (!p.2.contains i)) := dNin_T p.2 i
    have ad : dAdd (encT p.1) (.tuple [nI i]) = some (encT (p.1 ++ [i])) := add_sq true p.1 [i] (by rw [List.length_singleton]; omega)
    have st := fun S => step_in_s g h p.2 i S
    have st : ∀ S, f_step_in [.d (encG g), .d (encT p.2), .d (nI i)] S = some (.d (encT (stepN (fr g h) g.n p.2 i)), S) := st
    have fw : few ((acc ++ brk1 g h p i).map encPB).length = true := few_le (by
      rw [List.length_map, List.length_append]
      unfold brk1
      rw [List.length_map]
      have := List.length_filter_le (fun a => !p.2.contains a) (List.range i)
      rw [List.length_range] at this
      omega)
    unfold l_piles_of_length_1b
    have eb : brk1 g h p (i + 1) = brk1 g h p i ++ (if p.2.contains i then [] else [(p.1 ++ [i], stepN (fr g h) g.n p.2 i)]) := by
      unfold brk1
      rw [List.range_succ, List.filter_append, List.map_append]
      congr 1
      cases q : p.2.contains i <;> simp only [List.filter_cons, List.filter_nil, q] <;> rfl
    rw [eb]
    generalize brk1 g h p i = X at *
    cases q : p.2.contains i with
    | true =>
      rw [q] at ni
      have ni : dNin (nI i) (encT p.2) = some (.bool false) := ni
      simp [mIfS, mBool, mBin, mVar, getV, rd, ni, mNext]
    | false =>
      rw [q] at ni
      have ni : dNin (nI i) (encT p.2) = some (.bool true) := ni
      rw [List.map_append] at fw
      simp [mIfS, mBool, mBin, mVar, getV, rd, ni, mDo, mApp, mTup, mCons, mNil, datas, mFn, show few 1 = true from rfl, show few 2 = true from rfl, ad, st, st_get0, st_set0, datW, -List.length_append, -List.length_map]
      exact ⟨fw, rfl⟩
theorem l_piles_2 (T : Sto) (W : Wv) (ps : List (List Nat × List Nat)) (hr : Row T W (ps.map encPB)) (hps : ∀ p ∈ ps, p.1.length < 1000) (hl : ps.length ≤ 10000) (x y z : Option Wv) :
    ∃ x' y' z', l_piles_of_length_2 [some (.d (encG g)), L, some W, tn, some (.r T.length), x, y, z] (T ++ [.lst []]) = some (.nx, [some (.d (encG g)), L, some W, tn, some (.r T.length), x', y', z'], T ++ [.lst ((ps.flatMap (nstep (fr g h) g.n)).map encPB)]) := by
  unfold l_piles_of_length_2
  obtain ⟨src, hi1, hi2⟩ := hr.it [.lst []] (m := mVar 2) (ρ := [some (.d (encG g)), L, some W, tn, some (.r T.length), x, y, z]) rfl
  have hlen : ∀ i ≤ ps.length, ((ps.take i).flatMap (nstep (fr g h) g.n)).length ≤ i * 8 := fun i hi => by
    have hs : ∀ p, (nstep (fr g h) g.n p).length ≤ 8 := fun p => by
      unfold nstep
      rw [List.length_map]
      have := List.length_filter_le (fun a => !p.2.contains a) (List.range g.n)
      rw [List.length_range] at this
      have := h.n8
      omega
    have : ∀ l : List (List Nat × List Nat), (l.flatMap (nstep (fr g h) g.n)).length ≤ l.length * 8 := fun l => by
      induction l with
      | nil => simp
      | cons p l ih => rw [List.flatMap_cons, List.length_append, List.length_cons]; have := hs p; omega
    refine Nat.le_trans (this _) ?_
    rw [List.length_take]
    omega
  have := mFor_invC encPB (f := gT (gsC (gN 5) (gsC (gN 6) gsN))) (b := l_piles_of_length_2b) ps hi1 (by rw [List.length_map])
    (fun i ρ S' => ∃ x y z, ρ = [some (.d (encG g)), L, some W, tn, some (.r T.length), x, y, z] ∧ S' = T ++ [.lst (((ps.take i).flatMap (nstep (fr g h) g.n)).map encPB)])
    (fun i ρ S' hI => by obtain ⟨_, _, _, _, rfl⟩ := hI; exact hi2 _ i) ⟨x, y, z, rfl, by simp⟩ ?_
  · obtain ⟨ρ', S', h1, x', y', z', rfl, rfl⟩ := this
    rw [List.take_length] at h1
    exact ⟨x', y', z', h1⟩
  · rintro i hi ρ S' ⟨x', y', z', rfl, rfl⟩
    have hl1 := hlen i (by omega)
    obtain ⟨y2, hy⟩ := l_piles_1 g h L tn T (some W) ((ps.take i).flatMap (nstep (fr g h) g.n)) ps[i] (hps _ (List.getElem_mem hi)) z' (by omega)
    refine ⟨_, _, T ++ [.lst (((ps.take (i + 1)).flatMap (nstep (fr g h) g.n)).map encPB)], rfl, ?_, some (.d (encT ps[i].1)), some (.d (encT ps[i].2)), y2, rfl, rfl⟩
    have ef : (ps.take (i + 1)).flatMap (nstep (fr g h) g.n) = (ps.take i).flatMap (nstep (fr g h) g.n) ++ nstep (fr g h) g.n ps[i] := by
      rw [List.take_succ_eq_append_getElem hi, List.flatMap_append]
      simp
    rw [ef]
    unfold l_piles_of_length_2b
    exact hy
end
theorem nline_len (F : Fr) (n : Nat) (k : Nat) : (nline F n k).length = (nfs F n k).length := by unfold nfs; rw [List.length_map]
theorem piles_row (g : Gr) (h : OkG g) (m : Nat) (hl : ∀ k ≤ m, (nfs (fr g h) g.n k).length ≤ 2000) (hm : m ≤ 60) (S : Sto) (x y z tn lo : Option Wv) :
    ∃ W V x' y' z' t l, l_piles_of_length_3 [some (.d (encG g)), some (.d (nI m)), some (.d (.list [.tuple [.tuple [], .tuple []]])), tn, lo, x, y, z] S = some (.nx, [some (.d (encG g)), some (.d (nI m)), some W, t, l, x', y', z'], S ++ V) ∧ Row (S ++ V) W ((nline (fr g h) g.n m).map encPB) := by
  unfold l_piles_of_length_3
  have := mFor_inv (mi := mRg1 (mCons (mVar 1) mNil)) (f := gN 3) (b := l_piles_of_length_3b) (ρ := [some (.d (encG g)), some (.d (nI m)), some (.d (.list [.tuple [.tuple [], .tuple []]])), tn, lo, x, y, z]) (S := S) ((List.range m).map nI) (src := srcR 0 m) (n := m + 1) (it_rg (by simp [mCons, mNil, mVar, getV, nI]) (by omega)) (fun i S => src_rg _ i S) (by rw [List.length_map, List.length_range])
    (fun i ρ S' => ∃ W V x y z t l, ρ = [some (.d (encG g)), some (.d (nI m)), some W, t, l, x, y, z] ∧ S' = S ++ V ∧ Row (S ++ V) W ((nline (fr g h) g.n i).map encPB)) ⟨_, [], x, y, z, tn, lo, rfl, by simp, .inl rfl⟩ ?_
  · obtain ⟨ρ', S', h1, W, V, x, y, z, t, l, rfl, rfl, h2⟩ := this
    rw [List.length_map, List.length_range] at h2
    exact ⟨W, V, x, y, z, t, l, h1, h2⟩
  · rintro i hi ρ S' ⟨W, V, x, y, z, t, l, rfl, rfl, hr⟩
    have hi' : i < m := by simpa using hi
    have ed : ((List.range m).map nI)[i] = nI i := by simp
    have hlen := hl i (by omega)
    rw [← nline_len] at hlen
    obtain ⟨x', y', z', e⟩ := l_piles_2 g h (some (.d (nI m))) (some (.d (nI i))) (S ++ V) W (nline (fr g h) g.n i) hr (fun p hp => by rw [(nline_ok _ _ p hp).1]; omega) (by omega) x y z
    refine ⟨[some (.d (encG g)), some (.d (nI m)), some W, some (.d (nI i)), l, x, y, z], [some (.d (encG g)), some (.d (nI m)), some (.r (S ++ V).length), some (.d (nI i)), some (.r (S ++ V).length), x', y', z'], (S ++ V) ++ [.lst ((nline (fr g h) g.n (i + 1)).map encPB)], by rw [ed]; rfl, ?_, .r (S ++ V).length, V ++ [.lst ((nline (fr g h) g.n (i + 1)).map encPB)], x', y', z', _, _, rfl, by rw [List.append_assoc], ?_⟩
    · unfold l_piles_of_length_3b
      simp only [mSeq, mSet, mNew, mDisp, mNil, datas, show few 0 = true from rfl, Option.bind_some, List.length_nil, if_true, Option.map_some, List.set_cons_succ, List.set_cons_zero, e, mVar, getV, List.getElem?_cons_succ, List.getElem?_cons_zero, Option.join_some]
      rfl
    · refine .inr ⟨_, rfl, ?_, ?_⟩
      · rw [← List.append_assoc, List.length_append]; simp
      · rw [← List.append_assoc, st_get0]; rfl
theorem ix_last (is : List Int) (i : Int) : dIx (encIL (is ++ [i])) (.int (-1)) = some (.int i) := by
  show ixD ((is ++ [i]).map PyData.int) (-1) = _
  rw [ixD_m1]
  simp
theorem piles_of_length_s (g : Gr) (h : OkG g) (m : Nat) (hl : ∀ k ≤ m, (nfs (fr g h) g.n k).length ≤ 2000) (hm : m ≤ 60) (hc : (cntC (sgA g) (m + 1)).getLast? = some ((nfs (fr g h) g.n m).length : Int)) (S : Sto) : f_piles_of_length [.d (encG g), .d (nI m)] S = some (.d (encTs true (nfs (fr g h) g.n m)), S) := by
  unfold f_piles_of_length
  rw [fnM_at rfl]
  have nw := need_whole_s (m : Nat) 0 60 (by omega) (by omega) S
  have nw : f_need_whole [.d (nI m), .d (.int 0), .d (.int 60)] S = some (.d .none, S) := nw
  obtain ⟨W, V, x, y, z, t, l, e, hr⟩ := piles_row g h m hl hm S none none none none none
  have il : dIx (encIL (cntC (sgA g) (m + 1))) (.int (-1)) = some (.int ((nfs (fr g h) g.n m).length : Nat)) := by
    show ixD _ (-1) = _
    rw [ixD_m1, List.getLast?_map, hc]
    rfl
  have gt : dGt (.int ((nfs (fr g h) g.n m).length : Nat)) (.int 2000) = some (.bool false) := by
    have := hl m (Nat.le_refl _)
    have : dLt (.int ((2000 : Nat) : Int)) (.int ((nfs (fr g h) g.n m).length : Nat)) = _ := dLt_nat 2000 _
    show dLt (.int ((2000 : Nat) : Int)) _ = _
    rw [this, decide_eq_false (by omega)]
  obtain ⟨src, hi1, hi2⟩ := hr.it [] (m := mVar 2) (ρ := [some (.d (encG g)), some (.d (nI m)), some W, t, l, x, y, z]) rfl
  rw [List.append_nil] at hi1
  have hi3 := hi2 []
  rw [List.append_nil] at hi3
  have c1 : c_piles_of_length_1 [some (.d (encG g)), some (.d (nI m)), some W, t, l, x, y, z] (S ++ V) = some ((nfs (fr g h) g.n m).map encT, S ++ V) := by
    unfold c_piles_of_length_1
    have := hl m (Nat.le_refl _)
    rw [← nline_len] at this
    have := mLc_onC encPB (vs := [5, 6]) (f := gT (gsC (gN 5) (gsC (gN 6) gsN))) (mt := mYes) (me := mVar 5) (nline (fr g h) g.n m) hi1 hi3 (by rw [List.length_map]) (by omega) (fun p => [some (.d (encG g)), some (.d (nI m)), some W, t, l, some (.d (encT p.1)), some (.d (encT p.2)), z]) (fun _ => true) (fun p => encT p.1) (fun _ _ => rfl) (fun _ _ => rfl) (fun _ _ _ => rfl)
    rw [this, List.filter_eq_self.mpr fun _ _ => rfl]
    unfold nfs
    rw [List.map_map]
    rfl
  have e0 : mDisp (mCons (mTup (mCons (mTup mNil) (mCons (mTup mNil) mNil))) mNil) [some (.d (encG g)), some (.d (nI m)), none, none, none, none, none, none] S = some ([.tuple [.tuple [], .tuple []]], S) := rfl
  have ci := counts_in_s g h m (by omega) S
  simp [b_piles_of_length, mSeq, mDo, mIfS, mBool, mBin, mFn, mCons, mNil, mVar, getV, mC, mNeg, env0, need_letters_s g h, nw, ci, rd, il, gt, mNext, mSet, e0, e, mRet, mCall, mFr, c1, rds, dTuple, outW, st_take]
  rfl
end PL
set_option linter.all false
set_option maxRecDepth 100000
/-! P27: bits: tied_below, next_bits, kept_places. -/
namespace PL
open PySem Ev LW Tr
theorem band_nat (a b : Nat) : dBand (nI a) (nI b) = some (nI (a &&& b)) := rfl
theorem bor_nat (a b : Nat) : dBor (nI a) (nI b) = some (nI (a ||| b)) := by
  show some (PyData.int (Builtin.bitOr (a : Int) (b : Int))) = _
  rw [Bits.bitOr_pp (by omega) (by omega)]
  rfl
theorem ilt_nat0 (a : Nat) : ilt (a : Nat) 0 = false := by rw [ilt_eq]; simp
theorem shr_nat (a b : Nat) : dShr (nI a) (nI b) = some (nI (a >>> b)) := by
  show (if !(ilt (b : Nat) 0) then some (PyData.int ((a : Int) / 2 ^ ((b : Nat) : Int).toNat)) else none) = _
  rw [ilt_nat0]
  simp only [Bool.not_false, if_true, nI, Nat.shiftRight_eq_div_pow, Int.toNat_natCast]
  congr 2
theorem shl_one (b : Nat) (h : b ≤ 1000000) : dShl (.int 1) (nI b) = some (nI (1 <<< b)) := by
  show (if powOk 1 (b : Nat) then some (PyData.int (1 * 2 ^ ((b : Nat) : Int).toNat)) else none) = _
  have : powOk 1 (b : Nat) = true := by
    unfold powOk
    rw [ilt_nat0, show isSmall 1 = true from rfl]
    simpa using h
  rw [this]
  simp only [if_true, nI, Nat.one_shiftLeft, Int.toNat_natCast, Int.one_mul]
  congr 2
theorem sum_nat (xs : List Nat) : dSum [encL xs] = some (nI xs.sum) := by
  show (intsD (wI xs)).map (fun ns => PyData.int ns.sum) = _
  rw [intsD_wI]
  show some (PyData.int _) = some (PyData.int _)
  congr 2
  induction xs with
  | nil => rfl
  | cons x xs ih => rw [List.map_cons, List.sum_cons, List.sum_cons, ih]; omega
theorem wI_map {α : Type} (f : α → Nat) (l : List α) : l.map (fun x => nI (f x)) = wI (l.map f) := by unfold wI; rw [List.map_map]; rfl
theorem tied_below_s (g : Gr) (h : OkG g) (w : List Nat) (hl : w.length < 1000) (S : Sto) : f_tied_below [.d (encG g), .d (encT w)] S = some (.d (encL (tbs (fr g h) w)), S) := by
  unfold f_tied_below
  rw [fnM_at rfl]
  have c1 : ∀ (T : Sto) (j : Nat) (hj : j < w.length) x2, c_tied_below_1 [some (.d (encG g)), some (.d (encT w)), x2, some (.d (nI j)), some (.d (nI (w.getD j 0))), none] T = some (wI (((List.range j).filter fun i => !(fr g h).free (w.getD i 0) (w.getD j 0)).map fun i => 1 <<< i), T) := fun T j hj x2 => by
    unfold c_tied_below_1
    rw [mLc_on nI (List.range j) (src := srcR 0 j) (n := j + 1) (it_rg (by simp [mCons, mNil, mVar, getV, nI]) (by omega)) (fun i S => src_rg _ i S) (by rw [List.length_range]) (by rw [List.length_range]; omega) (fun i => [some (.d (encG g)), some (.d (encT w)), x2, some (.d (nI j)), some (.d (nI (w.getD j 0))), some (.d (nI i))]) (fun i => !(fr g h).free (w.getD i 0) (w.getD j 0)) (fun i => nI (1 <<< i)) (fun _ _ => rfl) ?_ ?_]
    · rw [← wI_map]
    · intro i hi
      have hi := List.mem_range.mp hi
      have ix : dIx (encT w) (nI i) = w[i]?.map fun a => .int (a : Nat) := ix_sq true w i
      rw [List.getElem?_eq_getElem (by omega)] at ix
      have ix : dIx (encT w) (nI i) = some (nI (w.getD i 0)) := by rw [ix, getD_at (by omega)]; rfl
      have fs : f_is_free [.d (encG g), .d (nI (w.getD i 0)), .d (nI (w.getD j 0))] T = some (.d (.bool (frB g (w.getD i 0) (w.getD j 0))), T) := is_free_s g _ _ T
      simp only [mNot, mBool, mFn, mCons, mNil, mBin, mVar, getV, List.getElem?_cons_succ, List.getElem?_cons_zero, Option.join_some, Option.map_some, Option.bind_some, rd, ix, fs]
      rfl
    · intro i hi _
      have hi := List.mem_range.mp hi
      simp [mBin, mVar, getV, mC, rd, shl_one i (by omega)]
  have hloop : ∃ ρ' S', l_tied_below_1 [some (.d (encG g)), some (.d (encT w)), some (.r S.length), none, none, none] (S ++ [.lst []]) = some (.nx, ρ', S') ∧ (∃ x y, ρ' = [some (.d (encG g)), some (.d (encT w)), some (.r S.length), x, y, none] ∧ S' = S ++ [.lst (wI (tbs (fr g h) w))]) := by
    unfold l_tied_below_1
    have := mFor_inv (mi := mEnum (mVar 1)) (f := gT (gsC (gN 3) (gsC (gN 4) gsN))) (b := l_tied_below_1b) (ρ := [some (.d (encG g)), some (.d (encT w)), some (.r S.length), none, none, none]) (S := S ++ [.lst []]) ((List.range w.length).map (enE w)) (src := srcE (srcL (wI w))) (n := w.length + 1) (it_en (t := true) rfl) (fun i S => src_en w i S) (by rw [List.length_map, List.length_range])
      (fun i ρ S' => ∃ x y, ρ = [some (.d (encG g)), some (.d (encT w)), some (.r S.length), x, y, none] ∧ S' = S ++ [.lst (wI ((List.range i).map (tb (fr g h) w)))]) ⟨none, none, rfl, rfl⟩ ?_
    · simpa [tbs] using this
    · rintro i hi ρ S' ⟨x, y, rfl, rfl⟩
      have hi' : i < w.length := by simpa using hi
      have ed : ((List.range w.length).map (enE w))[i] = enE w i := by simp
      refine ⟨[some (.d (encG g)), some (.d (encT w)), some (.r S.length), some (.d (nI i)), some (.d (nI (w.getD i 0))), none], [some (.d (encG g)), some (.d (encT w)), some (.r S.length), some (.d (nI i)), some (.d (nI (w.getD i 0))), none], S ++ [.lst (wI ((List.range (i + 1)).map (tb (fr g h) w)))], by rw [ed]; rfl, ?_, some (.d (nI i)), some (.d (nI (w.getD i 0))), rfl, rfl⟩
      have ct := c1 (S ++ [.lst (wI ((List.range i).map (tb (fr g h) w)))]) i hi' (some (.r S.length))
      have sm := sum_nat (((List.range i).filter fun k => !(fr g h).free (w.getD k 0) (w.getD i 0)).map fun k => 1 <<< k)
      have sm : dSum [.list (wI (((List.range i).filter fun k => !(fr g h).free (w.getD k 0) (w.getD i 0)).map fun k => 1 <<< k))] = some (nI (tb (fr g h) w i)) := sm
      have fe : few (wI ((List.range i).map (tb (fr g h) w))).length = true := few_le (by rw [wI_len, List.length_map, List.length_range]; omega)
      unfold l_tied_below_1b
      rw [List.range_succ, List.map_append, wI_app]
      simp only [mDo, mApp, mVar, getV, List.getElem?_cons_succ, List.getElem?_cons_zero, Option.join_some, Option.map_some, Option.bind_some, mCall, mFr, mCons, mNil, ct, rds, rd, sm, st_get0, st_set0, datW, fe, if_true, List.set_cons_zero]
      rfl
  obtain ⟨ρ', S', h1, x, y, rfl, rfl⟩ := hloop
  simp [b_tied_below, env0, mRet, mSeq, mSet, mDo, mNext, mNever, mIfS, mAsg, mUnp, mPar, mPar3, mBin, mIf, mBool, mAnd, mOr, mNot, mAndV, mOrV, mNotV, mVar, getV, mTup, mFr, mNew, mDisp, mCons, mNil, mC, mNeg, mFn, mCall, rds, rd, datas, datW, dIx, ixD, outW, mIsa, mChain, mSl, mNoP, mPart, mIt, srcW, mEnum, gN, gT, gsC, gsN, mRetN, mBrk, h1, encL, show few 0 = true from rfl]
theorem next_bits_s (bl : List Nat) (b : Nat) (hl : bl.length < 1000) (S : Sto) : f_next_bits [.d (encL bl), .d (nI b)] S = some (.d (encL (nb bl b)), S) := by
  unfold f_next_bits
  rw [fnM_at rfl]
  have hloop : ∃ ρ' S', l_next_bits_1 [some (.d (encL bl)), some (.d (nI b)), some (.r S.length), none, none] (S ++ [.lst []]) = some (.nx, ρ', S') ∧ (∃ x y, ρ' = [some (.d (encL bl)), some (.d (nI b)), some (.r S.length), x, y] ∧ S' = S ++ [.lst (wI (nb bl b))]) := by
    unfold l_next_bits_1
    have := mFor_inv (mi := mEnum (mVar 0)) (f := gT (gsC (gN 3) (gsC (gN 4) gsN))) (b := l_next_bits_1b) (ρ := [some (.d (encL bl)), some (.d (nI b)), some (.r S.length), none, none]) (S := S ++ [.lst []]) ((List.range bl.length).map (enE bl)) (src := srcE (srcL (wI bl))) (n := bl.length + 1) (it_en (t := false) rfl) (fun i S => src_en bl i S) (by rw [List.length_map, List.length_range])
      (fun i ρ S' => ∃ x y, ρ = [some (.d (encL bl)), some (.d (nI b)), some (.r S.length), x, y] ∧ S' = S ++ [.lst (wI (((List.range i).filter fun a => decide ((b >>> a) &&& 1 = 0) && decide (bl.getD a 0 &&& b = bl.getD a 0)).map fun a => b ||| 1 <<< a))]) ⟨none, none, rfl, rfl⟩ ?_
    · simpa [nb] using this
    · rintro i hi ρ S' ⟨x, y, rfl, rfl⟩
      have hi' : i < bl.length := by simpa using hi
      have ed : ((List.range bl.length).map (enE bl))[i] = enE bl i := by simp
      have fe : few (wI (((List.range i).filter fun a => decide ((b >>> a) &&& 1 = 0) && decide (bl.getD a 0 &&& b = bl.getD a 0)).map fun a => b ||| 1 <<< a)).length = true := few_le (by
        rw [wI_len, List.length_map]
        have := List.length_filter_le (fun a => decide ((b >>> a) &&& 1 = 0) && decide (bl.getD a 0 &&& b = bl.getD a 0)) (List.range i)
        rw [List.length_range] at this
        omega)
      refine ⟨[some (.d (encL bl)), some (.d (nI b)), some (.r S.length), some (.d (nI i)), some (.d (nI (bl.getD i 0)))], [some (.d (encL bl)), some (.d (nI b)), some (.r S.length), some (.d (nI i)), some (.d (nI (bl.getD i 0)))], _, by rw [ed]; rfl, ?_, some (.d (nI i)), some (.d (nI (bl.getD i 0))), rfl, rfl⟩
      have e1 : dShr (nI b) (nI i) = some (nI (b >>> i)) := shr_nat b i
      have e2 : dBand (nI (b >>> i)) (.int 1) = some (nI ((b >>> i) &&& 1)) := band_nat _ 1
      have e3 : dEq (nI ((b >>> i) &&& 1)) (.int 0) = some (.bool (decide ((b >>> i) &&& 1 = 0))) := dEq_nat _ 0
      have e4 : dBand (nI (bl.getD i 0)) (nI b) = some (nI (bl.getD i 0 &&& b)) := band_nat _ _
      have e5 : dEq (nI (bl.getD i 0 &&& b)) (nI (bl.getD i 0)) = some (.bool (decide (bl.getD i 0 &&& b = bl.getD i 0))) := dEq_nat _ _
      have e6 : dShl (.int 1) (nI i) = some (nI (1 <<< i)) := shl_one i (by omega)
      have e7 : dBor (nI b) (nI (1 <<< i)) = some (nI (b ||| 1 <<< i)) := bor_nat _ _
      rw [List.range_succ, List.filter_append, List.map_append, wI_app]
      generalize hX : wI (((List.range i).filter fun a => decide ((b >>> a) &&& 1 = 0) && decide (bl.getD a 0 &&& b = bl.getD a 0)).map fun a => b ||| 1 <<< a) = X at *
      rw [List.filter_cons, List.filter_nil]
      unfold l_next_bits_1b
      cases q1 : decide ((b >>> i) &&& 1 = 0) with
      | false =>
        rw [q1] at e3
        simp only [mIfS, mAnd, mBool, mBin, mVar, getV, mC, List.getElem?_cons_succ, List.getElem?_cons_zero, Option.join_some, Option.map_some, Option.bind_some, rd, e1, e2, e3, mNext, Bool.false_and, Bool.false_eq_true, if_false, List.map_nil]
        rw [show wI [] = [] from rfl, List.append_nil]
      | true =>
        rw [q1] at e3
        cases q2 : decide (bl.getD i 0 &&& b = bl.getD i 0) with
        | false =>
          rw [q2] at e5
          simp only [mIfS, mAnd, mBool, mBin, mVar, getV, mC, List.getElem?_cons_succ, List.getElem?_cons_zero, Option.join_some, Option.map_some, Option.bind_some, rd, e1, e2, e3, e4, e5, mNext, Bool.and_false, Bool.false_eq_true, if_false, if_true, List.map_nil]
          rw [show wI [] = [] from rfl, List.append_nil]
        | true =>
          rw [q2] at e5
          simp only [mIfS, mAnd, mBool, mBin, mVar, getV, mC, List.getElem?_cons_succ, List.getElem?_cons_zero, Option.join_some, Option.map_some, Option.bind_some, rd, e1, e2, e3, e4, e5, Bool.and_true, if_true, mDo, mApp, e6, e7, st_get0, st_set0, datW, fe, List.set_cons_zero, List.map_cons, List.map_nil]
          rfl
  obtain ⟨ρ', S', h1, x, y, rfl, rfl⟩ := hloop
  have h1 : l_next_bits_1 [some (.d (.list (wI bl))), some (.d (nI b)), some (.r S.length), none, none] (S ++ [.lst []]) = _ := h1
  simp [b_next_bits, env0, mRet, mSeq, mSet, mDo, mNext, mNever, mIfS, mAsg, mUnp, mPar, mPar3, mBin, mIf, mBool, mAnd, mOr, mNot, mAndV, mOrV, mNotV, mVar, getV, mTup, mFr, mNew, mDisp, mCons, mNil, mC, mNeg, mFn, mCall, rds, rd, datas, datW, dIx, ixD, outW, mIsa, mChain, mSl, mNoP, mPart, mIt, srcW, mEnum, gN, gT, gsC, gsN, mRetN, mBrk, h1, encL, show few 0 = true from rfl]
theorem shr_one (b i : Nat) : decide ((b >>> i) &&& 1 = 1) = b.testBit i := by
  rw [Nat.testBit, Nat.and_comm, Nat.one_and_eq_mod_two]
  by_cases q : b >>> i % 2 = 1 <;> simp [q]
/-- letters at the bits -/
def keptI (w : List Nat) (b : Nat) : List Nat := ((List.range w.length).filter fun i => b.testBit i).map fun i => w.getD i 0
theorem keptI_eq : ∀ (w : List Nat) (b : Nat), keptI w b = kept w (mk w.length b)
  | [], b => rfl
  | x :: w, b => by
    have ih := keptI_eq w (b / 2)
    show _ = if b.testBit 0 then x :: kept w (mk w.length (b / 2)) else kept w (mk w.length (b / 2))
    rw [← ih]
    unfold keptI
    rw [List.length_cons, List.range_succ_eq_map, List.filter_cons, List.filter_map]
    have e : ((fun i => b.testBit i) ∘ Nat.succ) = fun i => (b / 2).testBit i := by
      funext i; exact Nat.testBit_succ ..
    rw [e]
    cases b.testBit 0 with
    | false =>
      simp only [Bool.false_eq_true, if_false, List.map_map]
      rfl
    | true =>
      simp only [if_true, List.map_cons, List.map_map]
      rfl
theorem kept_places_s (w : List Nat) (b : Nat) (hl : w.length < 1000) (S : Sto) : f_kept_places [.d (encT w), .d (nI b)] S = some (.d (encT (kept w (mk w.length b))), S) := by
  unfold f_kept_places
  rw [fnM_at rfl]
  have c1 : c_kept_places_1 [some (.d (encT w)), some (.d (nI b)), none, none] S = some (wI (keptI w b), S) := by
    unfold c_kept_places_1
    rw [mLc_on (enE w) (List.range w.length) (src := srcE (srcL (wI w))) (n := w.length + 1) (it_en (t := true) rfl) (fun i S => src_en w i S) (by rw [List.length_range]) (by rw [List.length_range]; omega) (fun i => [some (.d (encT w)), some (.d (nI b)), some (.d (nI i)), some (.d (nI (w.getD i 0)))]) (fun i => b.testBit i) (fun i => nI (w.getD i 0)) (fun _ _ => rfl) ?_ (fun _ _ _ => rfl)]
    · rw [wI_map (fun i => w.getD i 0)]; rfl
    · intro i hi
      have e1 : dShr (nI b) (nI i) = some (nI (b >>> i)) := shr_nat b i
      have e2 : dBand (nI (b >>> i)) (.int 1) = some (nI ((b >>> i) &&& 1)) := band_nat _ 1
      have e3 : dEq (nI ((b >>> i) &&& 1)) (.int 1) = some (.bool (decide ((b >>> i) &&& 1 = 1))) := dEq_nat _ 1
      rw [shr_one] at e3
      simp only [mBool, mBin, mVar, getV, mC, List.getElem?_cons_succ, List.getElem?_cons_zero, Option.join_some, Option.map_some, Option.bind_some, rd, e1, e2, e3]
  simp [b_kept_places, mRet, mCall, mFr, mCons, mNil, env0, c1, rds, rd, dTuple, outW, keptI_eq]
  rfl
end PL
set_option linter.all false
set_option maxRecDepth 100000
/-! P28: levels_in. -/
namespace PL
open PySem Ev LW Tr
def kd (ks : List Nat) : List (PyData × PyData) := ks.map fun k => (nI k, .bool true)
theorem kd_any (ks : List Nat) (b : Nat) : ((kd ks).any fun q => kEq q.1 (nI b)) = ks.contains b := by
  induction ks with
  | nil => rfl
  | cons k ks ih =>
    have e : kEq (nI k) (nI b) = decide (k = b) := by
      show decide ((k : Int) = (b : Int)) = _
      rw [decide_eq_decide]; omega
    show (kEq (nI k) (nI b) || (kd ks).any fun q => kEq q.1 (nI b)) = _
    rw [ih, e, List.contains_cons]
    congr 1
    by_cases q : k = b
    · subst q; simp
    · have q' : ¬ b = k := fun z => q z.symm
      rw [decide_eq_false q]
      exact (beq_eq_false_iff_ne.mpr q').symm
theorem put_kd (ks : List Nat) (b : Nat) : putP (kd ks) (nI b) (.bool true) = kd (addk ks b) := by
  unfold putP addk
  rw [kd_any]
  split
  · have e : ∀ q ∈ kd ks, (if kEq q.1 (nI b) then (q.1, PyData.bool true) else q) = q := fun q hq => by
      obtain ⟨k, _, rfl⟩ := List.mem_map.mp hq
      split <;> rfl
    rw [List.map_congr_left e]
    exact List.map_id' _
  · unfold kd
    rw [List.map_append]
    rfl
theorem dd_len : ∀ (l ks : List Nat), (l.foldl addk ks).length ≤ ks.length + l.length
  | [], ks => by simp
  | b :: l, ks => by
    rw [List.foldl_cons]
    have h1 := dd_len l (addk ks b)
    have h2 : (addk ks b).length ≤ ks.length + 1 := by
      unfold addk
      split
      · omega
      · rw [List.length_append]; simp
    rw [List.length_cons]
    omega
theorem nb_len (bl : List Nat) (b : Nat) : (nb bl b).length ≤ bl.length := by
  unfold nb
  rw [List.length_map]
  have := List.length_filter_le (fun a => decide ((b >>> a) &&& 1 = 0) && decide (bl.getD a 0 &&& b = bl.getD a 0)) (List.range bl.length)
  rw [List.length_range] at this
  exact this
theorem fm_len (bl : List Nat) : ∀ l : List Nat, (l.flatMap (nb bl)).length ≤ l.length * bl.length
  | [] => by simp
  | b :: l => by
    rw [List.flatMap_cons, List.length_append, List.length_cons, Nat.succ_mul]
    have := nb_len bl b
    have := fm_len bl l
    omega
section
variable (bl : List Nat) (hb : bl.length < 1000) (g0 g1 f0 m0 t0 : Option Wv)
include hb
theorem l_levels_1 (T : Sto) (ks : List Nat) (b : Nat) (hk : ks.length ≤ 500000) (x : Option Wv) :
    ∃ y, l_levels_in_1 [g0, g1, some (.d (encL bl)), f0, m0, t0, some (.r T.length), some (.d (nI b)), x] (T ++ [.dic false (kd ks)]) = some (.nx, [g0, g1, some (.d (encL bl)), f0, m0, t0, some (.r T.length), some (.d (nI b)), y], T ++ [.dic false (kd ((nb bl b).foldl addk ks))]) := by
  unfold l_levels_in_1
  have hnl := nb_len bl b
  have := mFor_inv (mi := mIt (mFn f_next_bits (mCons (mVar 2) (mCons (mVar 7) mNil)))) (f := gN 8) (b := l_levels_in_1b) (ρ := [g0, g1, some (.d (encL bl)), f0, m0, t0, some (.r T.length), some (.d (nI b)), x]) (S := T ++ [.dic false (kd ks)]) (wI (nb bl b)) (src := srcL (wI (nb bl b))) (n := (nb bl b).length + 1) (it_w (t := false) (by simp [mFn, mCons, mNil, mVar, getV, next_bits_s bl b hb]; rfl)) (fun _ _ => rfl) (by rw [wI_len])
    (fun i ρ S' => ∃ y, ρ = [g0, g1, some (.d (encL bl)), f0, m0, t0, some (.r T.length), some (.d (nI b)), y] ∧ S' = T ++ [.dic false (kd (((nb bl b).take i).foldl addk ks))]) ⟨x, rfl, by simp⟩ ?_
  · obtain ⟨ρ', S', h1, y, rfl, rfl⟩ := this
    rw [wI_len, List.take_length] at h1
    exact ⟨y, h1⟩
  · rintro i hi ρ S' ⟨y, rfl, rfl⟩
    have hi' : i < (nb bl b).length := by rwa [wI_len] at hi
    have ed : (wI (nb bl b))[i] = nI (nb bl b)[i] := by simp [wI, nI]
    have hl := dd_len ((nb bl b).take i) ks
    rw [List.length_take] at hl
    have fe : few (kd (((nb bl b).take i).foldl addk ks)).length = true := few_le (by unfold kd; rw [List.length_map]; omega)
    refine ⟨[g0, g1, some (.d (encL bl)), f0, m0, t0, some (.r T.length), some (.d (nI b)), some (.d (nI (nb bl b)[i]))], [g0, g1, some (.d (encL bl)), f0, m0, t0, some (.r T.length), some (.d (nI b)), some (.d (nI (nb bl b)[i]))], T ++ [.dic false (kd (((nb bl b).take (i + 1)).foldl addk ks))], by rw [ed]; rfl, ?_, _, rfl, rfl⟩
    have et : ((nb bl b).take (i + 1)).foldl addk ks = addk (((nb bl b).take i).foldl addk ks) (nb bl b)[i] := by
      rw [List.take_succ_eq_append_getElem hi', List.foldl_append]
      rfl
    have ok : okKey false (nI (nb bl b)[i]) = true := rfl
    rw [et]
    unfold l_levels_in_1b
    simp only [mPut, mC, mVar, getV, List.getElem?_cons_succ, List.getElem?_cons_zero, Option.join_some, Option.map_some, Option.bind_some, st_get0, st_set0, datW, ok, fe, Bool.and_self, if_true, put_kd, List.set_cons_zero]
theorem l_levels_2 (T : Sto) (lv : List Nat) (hlv : lv.length ≤ 400) (Fw : Wv) (hF : ∀ c, ∃ fs, rd (T ++ [c]) Fw = some (.list fs) ∧ fs.getLast? = some (encL lv)) (x y : Option Wv) :
    ∃ x' y', l_levels_in_2 [g0, g1, some (.d (encL bl)), some Fw, m0, t0, some (.r T.length), x, y] (T ++ [.dic false []]) = some (.nx, [g0, g1, some (.d (encL bl)), some Fw, m0, t0, some (.r T.length), x', y'], T ++ [.dic false (kd ((lv.flatMap (nb bl)).foldl addk []))]) := by
  unfold l_levels_in_2
  have := mFor_inv (mi := mIt (mBin dIx (mVar 3) (mNeg (mC (.int 1))))) (f := gN 7) (b := l_levels_in_2b) (ρ := [g0, g1, some (.d (encL bl)), some Fw, m0, t0, some (.r T.length), x, y]) (S := T ++ [.dic false []]) (wI lv) (src := srcL (wI lv)) (n := lv.length + 1) (it_w (t := false) (by
      obtain ⟨fs, h1, h2⟩ := hF (.dic false [])
      have ix : dIx (.list fs) (.int (-1)) = some (encL lv) := by
        show ixD fs (-1) = _
        rw [ixD_m1, h2]
      have rdd : ∀ (U : Sto) (x : PyData), rd U (.d x) = some x := fun _ _ => rfl
      simp [mBin, mVar, getV, mNeg, mC, h1, rdd, ix]
      rfl)) (fun _ _ => rfl) (by rw [wI_len])
    (fun i ρ S' => ∃ x y, ρ = [g0, g1, some (.d (encL bl)), some Fw, m0, t0, some (.r T.length), x, y] ∧ S' = T ++ [.dic false (kd (((lv.take i).flatMap (nb bl)).foldl addk []))]) ⟨x, y, rfl, by simp [kd]⟩ ?_
  · obtain ⟨ρ', S', h1, x', y', rfl, rfl⟩ := this
    rw [wI_len, List.take_length] at h1
    exact ⟨x', y', h1⟩
  · rintro i hi ρ S' ⟨x', y', rfl, rfl⟩
    have hi' : i < lv.length := by rwa [wI_len] at hi
    have ed : (wI lv)[i] = nI lv[i] := by simp [wI, nI]
    have hk : (((lv.take i).flatMap (nb bl)).foldl addk []).length ≤ 500000 := by
      refine Nat.le_trans (dd_len _ _) ?_
      have h1 := fm_len bl (lv.take i)
      rw [List.length_take] at h1
      have h2 : min i lv.length * bl.length ≤ 400 * 1000 := Nat.mul_le_mul (by omega) (by omega)
      simp only [List.length_nil]
      omega
    obtain ⟨y2, hy⟩ := l_levels_1 bl hb g0 g1 (some Fw) m0 t0 T (((lv.take i).flatMap (nb bl)).foldl addk []) lv[i] hk y'
    refine ⟨_, _, T ++ [.dic false (kd (((lv.take (i + 1)).flatMap (nb bl)).foldl addk []))], by rw [ed]; rfl, ?_, some (.d (nI lv[i])), y2, rfl, rfl⟩
    have et : ((lv.take (i + 1)).flatMap (nb bl)).foldl addk [] = (nb bl lv[i]).foldl addk (((lv.take i).flatMap (nb bl)).foldl addk []) := by
      rw [List.take_succ_eq_append_getElem hi', List.flatMap_append, List.foldl_append]
      simp
    rw [et]
    exact hy
end
theorem kd_keys (ks : List Nat) : (kd ks).map (·.1) = wI ks := by unfold kd wI; rw [List.map_map]; rfl
def lvls (bl : List Nat) (k : Nat) : List PyData := (List.range k).map fun j => encL (lvl bl j)
def manyL (bl : List Nat) : Nat → Nat
  | 0 => 1
  | k + 1 => manyL bl k + (lvl bl (k + 1)).length
theorem levels_in_s (g : Gr) (h : OkG g) (w : List Nat) (hl : w.length < 1000) (hm : manyL (tbs (fr g h) w) w.length ≤ 400) (S : Sto) : f_levels_in [.d (encG g), .d (encT w)] S = some (.d (.list (lvls (tbs (fr g h) w) (w.length + 1))), S) := by
  unfold f_levels_in
  rw [fnM_at rfl]
  have hmi : ∀ j, j ≤ w.length → manyL (tbs (fr g h) w) j ≤ 400 := by
    have mono : ∀ d j, manyL (tbs (fr g h) w) j ≤ manyL (tbs (fr g h) w) (j + d) := fun d => by
      induction d with
      | zero => intro j; exact Nat.le_refl _
      | succ d ih => intro j; refine Nat.le_trans (ih j) ?_; rw [← Nat.add_assoc, manyL]; omega
    intro j hj
    have := mono (w.length - j) j
    rw [show j + (w.length - j) = w.length by omega] at this
    omega
  have hlv : ∀ j, j ≤ w.length → (lvl (tbs (fr g h) w) j).length ≤ 400 := fun j hj => by
    have := hmi j hj
    cases j with
    | zero => simp [lvl]
    | succ j => rw [manyL] at this; omega
  have tbl := tbs_len (F := fr g h) w
  generalize hB : tbs (fr g h) w = bl at *
  have hloop : ∃ ρ' S', l_levels_in_3 [some (.d (encG g)), some (.d (encT w)), some (.d (encL bl)), some (.r S.length), some (.d (.int 1)), none, none, none, none] (S ++ [.lst [encL [0]]]) = some (.nx, ρ', S') ∧ (∃ V m t x y z, ρ' = [some (.d (encG g)), some (.d (encT w)), some (.d (encL bl)), some (.r S.length), m, t, x, y, z] ∧ S' = S ++ (.lst (lvls bl (w.length + 1)) :: V)) := by
    unfold l_levels_in_3
    have := mFor_inv (mi := mRg1 (mCons (mCall dLen (mCons (mVar 1) mNil)) mNil)) (f := gN 5) (b := l_levels_in_3b) (ρ := [some (.d (encG g)), some (.d (encT w)), some (.d (encL bl)), some (.r S.length), some (.d (.int 1)), none, none, none, none]) (S := S ++ [.lst [encL [0]]]) ((List.range w.length).map nI) (src := srcR 0 w.length) (n := w.length + 1) (it_rg (by
        have ln : dLen [encT w] = some (.int (w.length : Nat)) := len_sq true w
        simp [mCons, mNil, mCall, mVar, getV, rds, rd, ln]) (by omega)) (fun i S => src_rg _ i S) (by rw [List.length_map, List.length_range])
      (fun i ρ S' => ∃ V t x y z, ρ = [some (.d (encG g)), some (.d (encT w)), some (.d (encL bl)), some (.r S.length), some (.d (nI (manyL bl i))), t, x, y, z] ∧ S' = S ++ (.lst (lvls bl (i + 1)) :: V)) ⟨[], none, none, none, none, rfl, rfl⟩ ?_
    · obtain ⟨ρ', S', h1, V, t, x, y, z, h2, h3⟩ := this
      rw [List.length_map, List.length_range] at h2 h3
      exact ⟨ρ', S', h1, V, _, t, x, y, z, h2, h3⟩
    · rintro i hi ρ S' ⟨V, t, x, y, z, rfl, rfl⟩
      have hi' : i < w.length := by simpa using hi
      have ed : ((List.range w.length).map nI)[i] = nI i := by simp
      have hlen : (S ++ (Cell.lst (lvls bl (i + 1)) :: V)).length = S.length + (1 + V.length) := by rw [List.length_append, List.length_cons]; omega
      have rdF : ∀ c, rd ((S ++ (Cell.lst (lvls bl (i + 1)) :: V)) ++ [c]) (.r S.length) = some (.list (lvls bl (i + 1))) := fun c => by
        rw [List.append_assoc]
        simp [rd]
      obtain ⟨x', y', e2⟩ := l_levels_2 bl (by omega) (some (.d (encG g))) (some (.d (encT w))) (some (.d (nI (manyL bl i)))) (some (.d (nI i))) (S ++ (.lst (lvls bl (i + 1)) :: V)) (lvl bl i) (hlv i (by omega)) (.r S.length) (fun c => ⟨_, rdF c, by unfold lvls; rw [List.range_succ, List.map_append]; simp⟩) y z
      have ek : (lvl bl (i + 1)) = ((lvl bl i).flatMap (nb bl)).foldl addk [] := rfl
      rw [← ek] at e2
      refine ⟨[some (.d (encG g)), some (.d (encT w)), some (.d (encL bl)), some (.r S.length), some (.d (nI (manyL bl i))), some (.d (nI i)), x, y, z], [some (.d (encG g)), some (.d (encT w)), some (.d (encL bl)), some (.r S.length), some (.d (nI (manyL bl (i + 1)))), some (.d (nI i)), some (.r (S ++ (Cell.lst (lvls bl (i + 1)) :: V)).length), x', y'], S ++ (.lst (lvls bl (i + 1 + 1)) :: (V ++ [.dic false (kd (lvl bl (i + 1)))])), by rw [ed]; rfl, ?_, V ++ [.dic false (kd (lvl bl (i + 1)))], some (.d (nI i)), _, x', y', rfl, rfl⟩
      have hst : S ++ (Cell.lst (lvls bl (i + 1)) :: V) ++ [Cell.dic false (kd (lvl bl (i + 1)))] = S ++ (.lst (lvls bl (i + 1)) :: (V ++ [.dic false (kd (lvl bl (i + 1)))])) := by rw [List.append_assoc]; rfl
      have gW : (S ++ (Cell.lst (lvls bl (i + 1)) :: V) ++ [Cell.dic false (kd (lvl bl (i + 1)))])[(S ++ (Cell.lst (lvls bl (i + 1)) :: V)).length]? = some (.dic false (kd (lvl bl (i + 1)))) := by
        rw [st_get0]; rfl
      have gF : (S ++ (Cell.lst (lvls bl (i + 1)) :: V) ++ [Cell.dic false (kd (lvl bl (i + 1)))])[S.length]? = some (.lst (lvls bl (i + 1))) := by
        rw [hst, st_get0]; rfl
      have sF : (S ++ (Cell.lst (lvls bl (i + 1)) :: V) ++ [Cell.dic false (kd (lvl bl (i + 1)))]).set S.length (.lst (lvls bl (i + 1) ++ [encL (lvl bl (i + 1))])) = S ++ (.lst (lvls bl (i + 1 + 1)) :: (V ++ [.dic false (kd (lvl bl (i + 1)))])) := by
        rw [hst, st_set0]
        have : lvls bl (i + 1 + 1) = lvls bl (i + 1) ++ [encL (lvl bl (i + 1))] := by unfold lvls; rw [List.range_succ (n := i + 1), List.map_append]; rfl
        rw [this]
        rfl
      have ad : dAdd (nI (manyL bl i)) (.int ((kd (lvl bl (i + 1))).length : Nat)) = some (nI (manyL bl (i + 1))) := by
        show some (PyData.int ((manyL bl i : Int) + ((kd (lvl bl (i + 1))).length : Nat))) = _
        unfold kd
        rw [List.length_map, manyL]
        rfl
      have gt : dGt (nI (manyL bl (i + 1))) (.int 2000) = some (.bool false) := by
        have := hmi (i + 1) (by omega)
        have e : dLt (.int ((2000 : Nat) : Int)) (.int (manyL bl (i + 1) : Nat)) = _ := dLt_nat 2000 _
        show dLt (.int ((2000 : Nat) : Int)) (.int (manyL bl (i + 1) : Nat)) = _
        rw [e, decide_eq_false (by omega)]
      have fe : few (lvls bl (i + 1)).length = true := few_le (by unfold lvls; rw [List.length_map, List.length_range]; omega)
      unfold l_levels_in_3b
      simp only [mSeq, mSet, mDic0, Option.map_some, Option.bind_some, List.set_cons_succ, List.set_cons_zero, e2, mBin, mLenD, mVar, getV, List.getElem?_cons_succ, List.getElem?_cons_zero, Option.join_some, gW, rd, ad, mIfS, mBool, mC, gt, Bool.false_eq_true, if_false, mNext, mDo, mApp, mFr, mListD, gF, datW, fe, if_true, kd_keys]
      rw [show PyData.list (wI (lvl bl (i + 1))) = encL (lvl bl (i + 1)) from rfl, sF]
  obtain ⟨ρ', S', h1, V, m, t, x, y, z, rfl, rfl⟩ := hloop
  have tb' := tied_below_s g h w hl S
  rw [hB] at tb'
  have h1 : l_levels_in_3 [some (.d (encG g)), some (.d (encT w)), some (.d (encL bl)), some (.r S.length), some (.d (.int 1)), none, none, none, none] (S ++ [.lst [.list [.int 0]]]) = _ := h1
  simp [b_levels_in, mSeq, mPar3, mFn, mCons, mNil, mVar, getV, env0, tb', mNew, mDisp, mFr, mC, datas, show few 1 = true from rfl, h1, mRet, outW, st_take]
end PL
set_option linter.all false
set_option maxRecDepth 100000
/-! P29: beginnings_of, endings_of. -/
namespace PL
open PySem Ev LW Tr
theorem wlt_swo : SrtO.Swo wlt := ⟨fun x y h => wlt_asymm h, fun x y z h1 h2 => by
  cases q : wlt z x with
  | false => rfl
  | true =>
    by_cases e : x = y
    · subst e; rw [h2] at q; cases q
    · rcases wlt_total e with k | k
      · have := wlt_trans q k; rw [h2] at this; cases this
      · rw [h1] at k; cases k⟩
theorem isort_uniq {l s : List (List Nat)} (hp : l.Perm s) (hs : s.Pairwise fun u v => wlt u v = true) : isort wlt l = s := sorted_uniq ((isort_perm wlt l).trans hp) (isort_srtd wlt_swo l) hs
def begS (F : Fr) (n : Nat) (w : List Nat) : List (List Nat) := (List.range (w.length + 1)).flatMap fun k => begK F n w k
theorem begK_len (g : Gr) (h : OkG g) {w : List Nat} (hw : Nf (fr g h) w) (hn : ∀ a ∈ w, a < g.n) (k : Nat) : (begK (fr g h) g.n w k).length = (lvl (tbs (fr g h) w) k).length := by
  have := (lvl_perm hw hn k).length_eq
  rw [List.length_map] at this
  exact this.symm
section
variable (g : Gr) (h : OkG g) (w : List Nat) (hw : Nf (fr g h) w) (hn : ∀ a ∈ w, a < g.n) (hl : w.length < 1000) (hm : manyL (tbs (fr g h) w) w.length ≤ 400) (S : Sto)
include hw hn hl hm
theorem lvl_few : ∀ j, j ≤ w.length → (lvl (tbs (fr g h) w) j).length ≤ 400 := fun j hj => by
  have mono : ∀ d j, manyL (tbs (fr g h) w) j ≤ manyL (tbs (fr g h) w) (j + d) := fun d => by
    induction d with
    | zero => intro j; exact Nat.le_refl _
    | succ d ih => intro j; refine Nat.le_trans (ih j) ?_; rw [← Nat.add_assoc, manyL]; omega
  have := mono (w.length - j) j
  rw [show j + (w.length - j) = w.length by omega] at this
  cases j with
  | zero => simp [lvl]
  | succ j => rw [manyL] at this; omega
theorem beginnings_in_s : f_beginnings_in [.d (encG g), .d (encT w)] S = some (.d (encTs false (begS (fr g h) g.n w)), S) := by
  unfold f_beginnings_in
  rw [fnM_at rfl]
  have hf := lvl_few g h w hw hn hl hm
  have c1 : ∀ x2 x4 k (hk : k ≤ w.length), c_beginnings_in_1 [some (.d (encG g)), some (.d (encT w)), x2, some (.d (encL (lvl (tbs (fr g h) w) k))), x4] S = some (((lvl (tbs (fr g h) w) k).map fun b => kept w (mk w.length b)).map encT, S) := fun x2 x4 k hk => by
    unfold c_beginnings_in_1
    have := hf k hk
    rw [mLc_onm nI (lvl (tbs (fr g h) w) k) (src := srcL (wI (lvl (tbs (fr g h) w) k))) (n := (lvl (tbs (fr g h) w) k).length + 1) (it_w (t := false) rfl) (fun _ _ => rfl) rfl (by omega) (fun b => [some (.d (encG g)), some (.d (encT w)), x2, some (.d (encL (lvl (tbs (fr g h) w) k))), some (.d (nI b))]) (fun b => encT (kept w (mk w.length b))) (fun _ _ => rfl) fun b _ => by simp [mFn, mCons, mNil, mVar, getV, kept_places_s w b hl], List.map_map]
    rfl
  have hloop : ∃ ρ' S', l_beginnings_in_1 [some (.d (encG g)), some (.d (encT w)), some (.d (.list [])), none, none] S = some (.nx, ρ', S') ∧ (∃ x y, ρ' = [some (.d (encG g)), some (.d (encT w)), some (.d (encTs false (begS (fr g h) g.n w))), x, y] ∧ S' = S) := by
    unfold l_beginnings_in_1
    have lv := levels_in_s g h w hl hm S
    have ll : (lvls (tbs (fr g h) w) (w.length + 1)).length = w.length + 1 := by unfold lvls; rw [List.length_map, List.length_range]
    have := mFor_inv (mi := mIt (mFn f_levels_in (mCons (mVar 0) (mCons (mVar 1) mNil)))) (f := gN 3) (b := l_beginnings_in_1b) (ρ := [some (.d (encG g)), some (.d (encT w)), some (.d (.list [])), none, none]) (S := S) (lvls (tbs (fr g h) w) (w.length + 1)) (src := srcL (lvls (tbs (fr g h) w) (w.length + 1))) (n := (lvls (tbs (fr g h) w) (w.length + 1)).length + 1) (it_l (by simp [mFn, mCons, mNil, mVar, getV, lv])) (fun _ _ => rfl) rfl
      (fun i ρ S' => ∃ x y, ρ = [some (.d (encG g)), some (.d (encT w)), some (.d (encTs false ((List.range i).flatMap fun k => begK (fr g h) g.n w k))), x, y] ∧ S' = S) ⟨none, none, rfl, rfl⟩ ?_
    · rw [ll] at this
      exact this
    · rintro i hi ρ S' ⟨x, y, rfl, rfl⟩
      have hi' : i < w.length + 1 := by omega
      have ed : (lvls (tbs (fr g h) w) (w.length + 1))[i] = encL (lvl (tbs (fr g h) w) i) := by simp [lvls]
      have so : dSorted (.list (((lvl (tbs (fr g h) w) i).map fun b => kept w (mk w.length b)).map encT)) = some ((begK (fr g h) g.n w i).map encT) := by
        rw [sorted_ws, isort_uniq (lvl_perm hw hn i) (begK_sorted g.n w i)]
      have lb : ∀ j ≤ w.length, (begK (fr g h) g.n w j).length ≤ 400 := fun j hj => by rw [begK_len g h hw hn]; exact hf j hj
      have lt : ((List.range i).flatMap fun k => begK (fr g h) g.n w k).length ≤ i * 400 := by
        have : ∀ n, n ≤ w.length + 1 → ((List.range n).flatMap fun k => begK (fr g h) g.n w k).length ≤ n * 400 := fun n => by
          induction n with
          | zero => intro _; simp
          | succ n ih =>
            intro hn
            rw [List.range_succ, List.flatMap_append, List.length_append, Nat.succ_mul]
            have h1 := ih (by omega)
            have h2 := lb n (by omega)
            simp only [List.flatMap_cons, List.flatMap_nil, List.append_nil]
            omega
        exact this i (by omega)
      have ad : dAdd (encTs false ((List.range i).flatMap fun k => begK (fr g h) g.n w k)) (.list ((begK (fr g h) g.n w i).map encT)) = some (encTs false ((List.range (i + 1)).flatMap fun k => begK (fr g h) g.n w k)) := by
        have := lb i (by omega)
        refine (add_list _ _ (by simp only [List.length_map]; omega)).trans ?_
        rw [List.range_succ, List.flatMap_append, List.flatMap_cons, List.flatMap_nil, List.append_nil, ← List.map_append]
        rfl
      refine ⟨[some (.d (encG g)), some (.d (encT w)), some (.d (encTs false ((List.range i).flatMap fun k => begK (fr g h) g.n w k))), some (.d (encL (lvl (tbs (fr g h) w) i))), y], [some (.d (encG g)), some (.d (encT w)), some (.d (encTs false ((List.range (i + 1)).flatMap fun k => begK (fr g h) g.n w k))), some (.d (encL (lvl (tbs (fr g h) w) i))), y], S', by rw [ed]; rfl, ?_, some (.d (encL (lvl (tbs (fr g h) w) i))), y, rfl, rfl⟩
      unfold l_beginnings_in_1b
      simp only [mSet, mBin, mVar, getV, List.getElem?_cons_succ, List.getElem?_cons_zero, Option.join_some, mFr, mL1, c1 _ _ i (by omega), Option.map_some, Option.bind_some, rd, so, ad, List.set_cons_succ, List.set_cons_zero]
  obtain ⟨ρ', S', h1, x, y, rfl, rfl⟩ := hloop
  simp [b_beginnings_in, mSeq, mSet, mFr, mDisp, mNil, datas, show few 0 = true from rfl, env0, h1, mRet, mVar, getV, outW]
end
/-- the number of beginnings is small for short words -/
theorem many_short (F : Fr) (w : List Nat) (hl : w.length ≤ 5) : manyL (tbs F w) w.length ≤ 400 := by
  have h1 : ∀ k, (lvl (tbs F w) k).length ≤ 2 ^ w.length := fun k => by
    have : (lvl (tbs F w) k).length ≤ (List.range (2 ^ w.length)).length := by
      refine List.Nodup.length_le_of_subset (lvl_nd _ k) fun b hb => ?_
      exact List.mem_range.mpr ((lvl_iff w k b).mp hb).1
    rwa [List.length_range] at this
  have h2 : ∀ k, manyL (tbs F w) k ≤ 1 + k * 2 ^ w.length := fun k => by
    induction k with
    | zero => simp [manyL]
    | succ k ih => rw [manyL, Nat.succ_mul]; have := h1 (k + 1); omega
  refine Nat.le_trans (h2 _) ?_
  have : 2 ^ w.length ≤ 2 ^ 5 := Nat.pow_le_pow_right (by decide) hl
  have : w.length * 2 ^ w.length ≤ 5 * 2 ^ 5 := Nat.mul_le_mul hl this
  omega
theorem beginnings_of_s (g : Gr) (h : OkG g) (w : List Nat) (hw : Pile g h w) (hm : manyL (tbs (fr g h) w) w.length ≤ 400) (S : Sto) : f_beginnings_of [.d (encG g), .d (encT w)] S = some (.d (encTs true (begS (fr g h) g.n w)), S) := by
  unfold f_beginnings_of
  rw [fnM_at rfl]
  have bs := beginnings_in_s g h w hw.nf hw.lt (by have := hw.len; omega) hm S
  have bs : f_beginnings_in [.d (encG g), .d (encT w)] S = some (.d (.list ((begS (fr g h) g.n w).map encT)), S) := bs
  simp [b_beginnings_of, mSeq, mDo, mFn, mCons, mNil, mVar, getV, env0, need_one_s g h w hw, bs, mRet, mCall, rds, rd, dTuple, outW, encTs]
/-! ### endings -/
def plt2 (p q : Nat × List Nat) : Bool := if p.1 = q.1 then wlt p.2 q.2 else decide (p.1 < q.1)
def encNW (p : Nat × List Nat) : PyData := .tuple [nI p.1, encT p.2]
theorem cmp_nw (p q : Nat × List Nat) : cmpD (encNW p) (encNW q) = plt2 p q := by
  show cmpL [nI p.1, encT p.2] [nI q.1, encT q.2] = _
  rw [cmpL]
  have e1 : PyData.eqv (nI p.1) (nI q.1) = decide (p.1 = q.1) := by
    unfold nI
    rw [eqv_int, decide_eq_decide]
    omega
  have e2 : cmpD (nI p.1) (nI q.1) = decide (p.1 < q.1) := by unfold nI; rw [cmpD, ilt_nat]
  rw [e1, e2]
  unfold plt2
  by_cases z : p.1 = q.1
  · rw [decide_eq_true z, if_pos rfl, if_pos z, cmpL, eqv_T]
    by_cases z2 : p.2 = q.2
    · rw [decide_eq_true z2, if_pos rfl, z2, wlt_irr, cmpL]
    · rw [decide_eq_false z2, if_neg (by simp), cmp_w]
  · rw [decide_eq_false z, if_neg (by simp), if_neg z]
theorem homog_nw (ps : List (Nat × List Nat)) : homog (ps.map encNW) = true := by
  cases ps with
  | nil => rfl
  | cons p ps =>
    have hg : Sh.guess (encNW p) = .tP [.int, .tU .int] := by
      show Sh.guess (.tuple [.int (p.1 : Nat), encT p.2]) = _
      rw [Sh.guess, Sh.guesses, Sh.guesses, Sh.guesses, guess_wI]
      rfl
    show homog (encNW p :: ps.map encNW) = true
    unfold homog
    simp only [hg]
    rw [← List.map_cons, List.all_map, List.all_eq_true]
    intro q _
    show (Sh.fit (.tP [.int, .tU .int]) (.tuple [.int (q.1 : Nat), .tuple (wI q.2)]) && shal 9 (encNW q)) = true
    have h1 : shal 9 (encNW q) = true := by
      show ([nI q.1, encT q.2].all (shal 8)) = true
      rw [List.all_cons, List.all_cons, shal_T]
      rfl
    rw [h1, Sh.fit, Sh.fitP, Sh.fitP, Sh.fitP, Sh.fit, Sh.fit, fitU_wI]
    rfl
theorem sorted_nw (ps : List (Nat × List Nat)) : dSorted (.list (ps.map encNW)) = some ((isort plt2 ps).map encNW) := by
  show sortD (ps.map encNW) = _
  unfold sortD
  rw [if_pos (homog_nw ps), isort_map encNW cmp_nw]
def endS (F : Fr) (n : Nat) (w : List Nat) : List (List Nat) := (isort plt2 ((begS F n (turned F w)).map fun u => (u.length, turned F u))).map (·.2)
theorem begS_few (g : Gr) (h : OkG g) (w : List Nat) (hw : Nf (fr g h) w) (hn : ∀ a ∈ w, a < g.n) (hl : w.length < 1000) (hm : manyL (tbs (fr g h) w) w.length ≤ 400) : (begS (fr g h) g.n w).length ≤ 400000 := by
  have hf := lvl_few g h w hw hn hl hm
  have lb : ∀ j ≤ w.length, (begK (fr g h) g.n w j).length ≤ 400 := fun j hj => by rw [begK_len g h hw hn]; exact hf j hj
  have : ∀ n, n ≤ w.length + 1 → ((List.range n).flatMap fun k => begK (fr g h) g.n w k).length ≤ n * 400 := fun n => by
    induction n with
    | zero => intro _; simp
    | succ n ih =>
      intro hn
      rw [List.range_succ, List.flatMap_append, List.length_append, Nat.succ_mul]
      have h1 := ih (by omega)
      have h2 := lb n (by omega)
      simp only [List.flatMap_cons, List.flatMap_nil, List.append_nil]
      omega
  have h1 := this (w.length + 1) (Nat.le_refl _)
  refine Nat.le_trans h1 ?_
  omega
theorem begS_mem {F : Fr} {n : Nat} {w u : List Nat} : u ∈ begS F n w ↔ u ∈ nfs F n u.length ∧ (behind F u w).isSome = true := by
  unfold begS begK
  rw [List.mem_flatMap]
  constructor
  · rintro ⟨k, _, h⟩
    obtain ⟨h1, h2⟩ := List.mem_filter.mp h
    have := (mem_nfs.mp h1).1
    rw [this]
    exact ⟨h1, h2⟩
  · rintro ⟨h1, h2⟩
    refine ⟨u.length, List.mem_range.mpr ?_, List.mem_filter.mpr ⟨h1, h2⟩⟩
    obtain ⟨r, hr⟩ := Option.isSome_iff_exists.mp h2
    have := (behind_some.mp hr).2.length
    rw [List.length_append] at this
    omega
theorem turned_pile {g : Gr} {h : OkG g} {w : List Nat} (hw : Pile g h w) : Pile g h (turned (fr g h) w) := ⟨by unfold turned; rw [lst_length, List.length_reverse]; exact hw.len, fun a ha => by
  unfold turned at ha
  have := (lst_eqv w.reverse).mem.mp ha
  exact hw.lt a (List.mem_reverse.mp this), Nf.lst _⟩
theorem endings_of_s (g : Gr) (h : OkG g) (w : List Nat) (hw : Pile g h w) (hm : manyL (tbs (fr g h) (turned (fr g h) w)) (turned (fr g h) w).length ≤ 400) (S : Sto) : f_endings_of [.d (encG g), .d (encT w)] S = some (.d (encTs true (endS (fr g h) g.n w)), S) := by
  unfold f_endings_of
  rw [fnM_at rfl]
  have tp := turned_pile hw
  have tl := tp.len
  have bs := beginnings_in_s g h (turned (fr g h) w) tp.nf tp.lt (by omega) hm S
  have bl := begS_few g h (turned (fr g h) w) tp.nf tp.lt (by omega) hm
  have ts := turned_s g h w (by have := hw.len; omega) S
  have c1 : c_endings_of_1 [some (.d (encG g)), some (.d (encT w)), none, none, none] S = some (((begS (fr g h) g.n (turned (fr g h) w)).map (turned (fr g h))).map encT, S) := by
    unfold c_endings_of_1
    rw [mLc_onm encT (begS (fr g h) g.n (turned (fr g h) w)) (src := srcL ((begS (fr g h) g.n (turned (fr g h) w)).map encT)) (n := (begS (fr g h) g.n (turned (fr g h) w)).length + 1) (by
      rw [it_l (ds := (begS (fr g h) g.n (turned (fr g h) w)).map encT) (by simp [mFn, mCons, mNil, mVar, getV, ts, bs]; rfl), List.length_map]) (fun _ _ => rfl) rfl (by omega) (fun u => [some (.d (encG g)), some (.d (encT w)), none, some (.d (encT u)), none]) (fun u => encT (turned (fr g h) u)) (fun _ _ => rfl) fun u hu => ?_, List.map_map]
    · rfl
    · have := (mem_nfs.mp (begS_mem.mp hu).1)
      obtain ⟨r, hr⟩ := Option.isSome_iff_exists.mp (begS_mem.mp hu).2
      have := (behind_some.mp hr).2.length
      rw [List.length_append] at this
      simp [mFn, mCons, mNil, mVar, getV, turned_s g h u (by omega)]
  have c2 : c_endings_of_2 [some (.d (encG g)), some (.d (encT w)), some (.d (encTs false ((begS (fr g h) g.n (turned (fr g h) w)).map (turned (fr g h))))), none, none] S = some (((begS (fr g h) g.n (turned (fr g h) w)).map fun u => (u.length, turned (fr g h) u)).map encNW, S) := by
    unfold c_endings_of_2
    rw [mLc_onm encT ((begS (fr g h) g.n (turned (fr g h) w)).map (turned (fr g h))) (src := srcL (((begS (fr g h) g.n (turned (fr g h) w)).map (turned (fr g h))).map encT)) (n := ((begS (fr g h) g.n (turned (fr g h) w)).map (turned (fr g h))).length + 1) (by
      rw [it_l (ds := ((begS (fr g h) g.n (turned (fr g h) w)).map (turned (fr g h))).map encT) rfl, List.length_map]) (fun _ _ => rfl) rfl (by rw [List.length_map]; omega) (fun u => [some (.d (encG g)), some (.d (encT w)), some (.d (encTs false ((begS (fr g h) g.n (turned (fr g h) w)).map (turned (fr g h))))), some (.d (encT u)), none]) (fun u => encNW (u.length, u)) (fun _ _ => rfl) fun u hu => ?_, List.map_map, List.map_map]
    · congr 2
      apply List.map_congr_left
      intro u _
      show encNW ((turned (fr g h) u).length, turned (fr g h) u) = encNW (u.length, turned (fr g h) u)
      unfold turned
      rw [lst_length, List.length_reverse]
    · have ln : dLen [encT u] = some (.int (u.length : Nat)) := len_sq true u
      simp [mTup, mCons, mNil, mCall, mVar, getV, rds, rd, ln, datas, show few 2 = true from rfl, encNW, nI]
  have c3 : c_endings_of_3 [some (.d (encG g)), some (.d (encT w)), some (.d (encTs false ((begS (fr g h) g.n (turned (fr g h) w)).map (turned (fr g h))))), none, none] S = some ((endS (fr g h) g.n w).map encT, S) := by
    unfold c_endings_of_3
    have il := isort_len plt2 ((begS (fr g h) g.n (turned (fr g h) w)).map fun u => (u.length, turned (fr g h) u))
    rw [List.length_map] at il
    rw [mLc_onm encNW (isort plt2 ((begS (fr g h) g.n (turned (fr g h) w)).map fun u => (u.length, turned (fr g h) u))) (src := srcL ((isort plt2 ((begS (fr g h) g.n (turned (fr g h) w)).map fun u => (u.length, turned (fr g h) u))).map encNW)) (n := (isort plt2 ((begS (fr g h) g.n (turned (fr g h) w)).map fun u => (u.length, turned (fr g h) u))).length + 1) (by
      rw [it_l (ds := (isort plt2 ((begS (fr g h) g.n (turned (fr g h) w)).map fun u => (u.length, turned (fr g h) u))).map encNW) (by simp only [mFr, mL1, c2, Option.map_some, Option.bind_some, rd, sorted_nw]), List.length_map]) (fun _ _ => rfl) rfl (by omega) (fun p => [some (.d (encG g)), some (.d (encT w)), some (.d (encTs false ((begS (fr g h) g.n (turned (fr g h) w)).map (turned (fr g h))))), some (.d (encT p.2)), some (.d (nI p.1))]) (fun p => encT p.2) (fun _ _ => rfl) fun p hp => rfl]
    unfold endS
    rw [List.map_map]
    rfl
  have c3 : c_endings_of_3 [some (.d (encG g)), some (.d (encT w)), some (.d (.list (((begS (fr g h) g.n (turned (fr g h) w)).map (turned (fr g h))).map encT))), none, none] S = _ := c3
  simp [b_endings_of, mSeq, mDo, mFn, mCons, mNil, mVar, getV, env0, need_one_s g h w hw, mSet, c1, mRet, mCall, mFr, c3, rds, rd, dTuple, outW, encTs, -List.map_map]
end PL
set_option linter.all false
set_option maxRecDepth 100000
/-! P30: above all; bars; four parts told. -/
namespace PL
open PySem Ev LW Tr
theorem ab2_eq (g : Gr) (h : OkG g) (u v : List Nat) : PL.ab2 g h u v = Tr.ab2 (fr g h) u v := rfl
theorem cm2_eq (F : Fr) (u v : List Nat) : PL.cm2 F u v = Tr.cm2 F u v := rfl
theorem ab2_len {F : Fr} {u v r : List Nat} (e : Tr.ab2 F u v = some r) : r.length ≤ u.length + v.length := by
  unfold Tr.ab2 at e
  obtain ⟨p, q, h1, h2⟩ := cm2_behind (F := F) u v
  rw [h1, h2] at e
  simp only at e
  split at e
  · cases e
    have l2 := (behind_some.mp h2).2.length
    rw [List.length_append] at l2
    rw [lst_length, List.length_append]
    omega
  · cases e
theorem aball_app {F : Fr} : ∀ (vs ws : List (List Nat)) (u : List Nat), aball F u (vs ++ ws) = match aball F u vs with | none => none | some r => aball F r ws
  | [], ws, u => rfl
  | v :: vs, ws, u => by
    show (match Tr.ab2 F u v with | none => none | some r => aball F r (vs ++ ws)) = match (match Tr.ab2 F u v with | none => none | some r => aball F r vs) with | none => none | some r => aball F r ws
    cases Tr.ab2 F u v with
    | none => rfl
    | some r => exact aball_app vs ws r
theorem aball_len {F : Fr} : ∀ (vs : List (List Nat)) (u r : List Nat), aball F u vs = some r → r.length ≤ u.length + (vs.map List.length).sum
  | [], u, r, e => by cases e; simp
  | v :: vs, u, r, e => by
    have e : (match Tr.ab2 F u v with | none => none | some r => aball F r vs) = some r := e
    cases q : Tr.ab2 F u v with
    | none => rw [q] at e; cases e
    | some s =>
      rw [q] at e
      have := aball_len vs s r e
      have := ab2_len q
      rw [List.map_cons, List.sum_cons]
      omega
theorem sum_take_le : ∀ (l : List Nat) (i : Nat), (l.take i).sum ≤ l.sum
  | [], i => by simp
  | x :: l, 0 => by simp
  | x :: l, i + 1 => by rw [List.take_succ_cons, List.sum_cons, List.sum_cons]; have := sum_take_le l i; omega
theorem mem_le_sum : ∀ {l : List Nat} {x : Nat}, x ∈ l → x ≤ l.sum
  | y :: l, x, m => by
    rw [List.sum_cons]
    rcases List.mem_cons.mp m with rfl | m
    · omega
    · have := mem_le_sum m; omega
theorem above_s (g : Gr) (h : OkG g) (u v : List Nat) (lu : u.length < 60) (lv : v.length < 60) (S : Sto) : f_above_in [.d (encG g), .d (encT u), .d (encT v)] S = some (.d (optS true (Tr.ab2 (fr g h) u v)), S) := by
  obtain ⟨p, q, h1, h2⟩ := cm2_behind (F := fr g h) u v
  exact above_in_s g h u v p q lu lv h1 h2 S
theorem above_all_in_s (g : Gr) (h : OkG g) (u : List Nat) (vs : List (List Nat)) (hs : u.length + (vs.map List.length).sum < 60) (hv : vs.length < 100) (S : Sto) : f_above_all_in [.d (encG g), .d (encTs true (u :: vs))] S = some (.d (optS true (aball (fr g h) u vs)), S) := by
  unfold f_above_all_in
  rw [fnM_at rfl]
  have ix : dIx (encTs true (u :: vs)) (.int 0) = some (encT u) := rfl
  have sl : dSl (encTs true (u :: vs)) (some 1) none = some (.tuple (vs.map encT)) := by
    have := cut_from ((u :: vs).map encT) 1 (by simp)
    show some (PyData.tuple (cutD ((u :: vs).map encT) (some ((1 : Nat) : Int)) none)) = _
    rw [this]
    rfl
  have hloop : ∃ fl ρ' S', l_above_all_in_1 [some (.d (encG g)), some (.d (encTs true (u :: vs))), some (.d (encT u)), none] S = some (fl, ρ', S') ∧ ((fl = .nx ∧ ∃ r y, aball (fr g h) u vs = some r ∧ ρ' = [some (.d (encG g)), some (.d (encTs true (u :: vs))), some (.d (encT r)), y] ∧ S' = S) ∨ ∃ w, fl = .rt w ∧ w = .d .none ∧ S' = S ∧ aball (fr g h) u vs = none) := by
    unfold l_above_all_in_1
    have := mFor_ex (mi := mIt (mSl dSl (mVar 1) (mPart (mC (.int 1))) mNoP)) (f := gN 3) (b := l_above_all_in_1b) (ρ := [some (.d (encG g)), some (.d (encTs true (u :: vs))), some (.d (encT u)), none]) (S := S) (vs.map encT) (src := srcL (vs.map encT)) (n := (vs.map encT).length + 1) (it_t (by simp [mSl, mVar, getV, mPart, mC, mNoP, rd, sl])) (fun _ _ => rfl) rfl
      (fun i ρ S' => ∃ r y, aball (fr g h) u (vs.take i) = some r ∧ ρ = [some (.d (encG g)), some (.d (encTs true (u :: vs))), some (.d (encT r)), y] ∧ S' = S) (fun w S' => w = .d .none ∧ S' = S ∧ aball (fr g h) u vs = none) ⟨u, none, rfl, rfl, rfl⟩ ?_
    · obtain ⟨fl, ρ', S', h1, h2⟩ := this
      refine ⟨fl, ρ', S', h1, ?_⟩
      rcases h2 with ⟨rfl, r, y, h3, h4, h5⟩ | h2
      · rw [List.length_map, List.take_length] at h3
        exact .inl ⟨rfl, r, y, h3, h4, h5⟩
      · exact .inr h2
    · rintro i hi ρ S' ⟨r, y, hr, rfl, rfl⟩
      have hi' : i < vs.length := by simpa using hi
      have ed : (vs.map encT)[i] = encT vs[i] := by simp
      have lr := aball_len _ _ _ hr
      have lt := sum_take_le (vs.map List.length) i
      rw [← List.map_take] at lt
      have lv := mem_le_sum (l := vs.map List.length) (x := vs[i].length) (List.mem_map.mpr ⟨_, List.getElem_mem hi', rfl⟩)
      have as := above_s g h r vs[i] (by omega) (by omega) S'
      have ht : aball (fr g h) u (vs.take (i + 1)) = Tr.ab2 (fr g h) r vs[i] := by
        rw [List.take_succ_eq_append_getElem hi', aball_app, hr]
        show (match Tr.ab2 (fr g h) r vs[i] with | none => none | some r => some r) = _
        cases Tr.ab2 (fr g h) r vs[i] <;> rfl
      refine ⟨[some (.d (encG g)), some (.d (encTs true (u :: vs))), some (.d (encT r)), some (.d (encT vs[i]))], ?_⟩
      cases q : Tr.ab2 (fr g h) r vs[i] with
      | none =>
        rw [q] at as ht
        have as : f_above_in [.d (encG g), .d (encT r), .d (encT vs[i])] S' = some (.d .none, S') := as
        refine ⟨.rt (.d .none), [some (.d (encG g)), some (.d (encTs true (u :: vs))), some (.d .none), some (.d (encT vs[i]))], S', by rw [ed]; rfl, ?_, .inr ⟨_, rfl, rfl, rfl, ?_⟩⟩
        · unfold l_above_all_in_1b
          have dn : dIs .none .none = some (.bool true) := rfl
          simp only [mSeq, mSet, mFn, mCons, mNil, mVar, getV, List.getElem?_cons_succ, List.getElem?_cons_zero, Option.join_some, Option.map_some, Option.bind_some, as, List.set_cons_succ, List.set_cons_zero, mIfS, mBool, mBin, mC, rd, dn, if_true, mRet]
        · rw [← List.take_append_drop (i + 1) vs, aball_app, ht]
      | some s =>
        rw [q] at as ht
        have as : f_above_in [.d (encG g), .d (encT r), .d (encT vs[i])] S' = some (.d (encT s), S') := as
        refine ⟨.nx, [some (.d (encG g)), some (.d (encTs true (u :: vs))), some (.d (encT s)), some (.d (encT vs[i]))], S', by rw [ed]; rfl, ?_, .inl ⟨rfl, s, some (.d (encT vs[i])), ht, rfl, rfl⟩⟩
        unfold l_above_all_in_1b
        have dn : dIs (encT s) .none = some (.bool false) := dIs_none_sq true (some s)
        simp only [mSeq, mSet, mFn, mCons, mNil, mVar, getV, List.getElem?_cons_succ, List.getElem?_cons_zero, Option.join_some, Option.map_some, Option.bind_some, as, List.set_cons_succ, List.set_cons_zero, mIfS, mBool, mBin, mC, rd, dn, Bool.false_eq_true, if_false, mNext]
  obtain ⟨fl, ρ', S', h1, h2⟩ := hloop
  rcases h2 with ⟨rfl, r, y, hr, rfl, rfl⟩ | ⟨w, rfl, rfl, rfl, hr⟩
  · rw [hr]
    simp [b_above_all_in, mSeq, mSet, mBin, mVar, getV, mC, env0, rd, ix, h1, mRet, outW, optS, sq]
  · rw [hr]
    simp [b_above_all_in, mSeq, mSet, mBin, mVar, getV, mC, env0, rd, ix, h1, outW, optS]
theorem pile_above_s (g : Gr) (h : OkG g) (u : List Nat) (vs : List (List Nat)) (hp : ∀ w ∈ u :: vs, Pile g h w) (hs : u.length + (vs.map List.length).sum < 60) (hv : vs.length ≤ 9) (S : Sto) : f_pile_above [.d (encG g), .d (encTs true (u :: vs))] S = some (.d (optS true (aball (fr g h) u vs)), S) := by
  unfold f_pile_above
  rw [fnM_at rfl]
  have na := need_all_s g h (u :: vs) (by simp) (by simp; omega) hp S
  have aa := above_all_in_s g h u vs hs (by omega) S
  simp [b_pile_above, mSeq, mDo, mFn, mCons, mNil, mVar, getV, env0, na, aa, mRet, outW]
/-! ### bars -/
theorem findSome_at {α β : Type} {f : α → Option β} {l : List α} {i : Nat} (hi : i < l.length) {b : β} (hn : (l.take i).findSome? f = none) (hb : f l[i] = some b) : l.findSome? f = some b := by
  have e := congrArg (List.findSome? f) (List.take_append_drop i l)
  rw [List.findSome?_append, hn, List.drop_eq_getElem_cons hi, List.findSome?_cons, hb] at e
  exact e.symm
def barIn (g : Gr) (a : Nat) (q : List Nat) : Option (Nat × Nat) := q.findSome? fun b => if frB g a b then none else some (a, b)
def barAll (g : Gr) (p q : List Nat) : Option (Nat × Nat) := p.findSome? fun a => barIn g a q
def optP : Option (Nat × Nat) → PyData
  | none => .none
  | some p => encP p
theorem barAll_none (g : Gr) (p q : List Nat) : (barAll g p q).isNone = apB g p q := by
  unfold barAll barIn apB
  rw [Bool.eq_iff_iff]
  simp [List.findSome?_eq_none_iff]
theorem above_bar_s (g : Gr) (h : OkG g) (u v p q : List Nat) (hu : Pile g h u) (hv : Pile g h v) (lu : u.length < 60) (lv : v.length < 60) (hp : behind (fr g h) (cm2 (fr g h) u v) u = some p) (hq : behind (fr g h) (cm2 (fr g h) u v) v = some q) (S : Sto) : f_above_bar [.d (encG g), .d (encT u), .d (encT v)] S = some (.d (optP (barAll g (sdN p) (sdN q))), S) := by
  unfold f_above_bar
  rw [fnM_at rfl]
  have l1 := (behind_some.mp hp).2.length
  have l2 := (behind_some.mp hq).2.length
  rw [List.length_append] at l1 l2
  have sp : dSortSet (encT p) = some (wI (sdN p)) := sortSet_s true p (by omega)
  have sq' : dSortSet (encT q) = some (wI (sdN q)) := sortSet_s true q (by omega)
  have rs := rests_in_s g h u v lu lv S
  rw [hp, hq] at rs
  have rs : f_rests_in [.d (encG g), .d (encT u), .d (encT v)] S = some (.d (.tuple [encT p, encT q]), S) := rs
  have inner : ∀ (T : Sto) (a : Nat) (x : Option Wv), ∃ fl ρ' S', l_above_bar_1 [some (.d (encG g)), some (.d (encT u)), some (.d (encT v)), some (.d (encT p)), some (.d (encT q)), some (.d (nI a)), x] T = some (fl, ρ', S') ∧ ((fl = .nx ∧ barIn g a (sdN q) = none ∧ S' = T ∧ ∃ y, ρ' = [some (.d (encG g)), some (.d (encT u)), some (.d (encT v)), some (.d (encT p)), some (.d (encT q)), some (.d (nI a)), y]) ∨ ∃ w, fl = .rt w ∧ S' = T ∧ ∃ b, barIn g a (sdN q) = some b ∧ w = .d (encP b)) := fun T a x => by
    unfold l_above_bar_1
    have := mFor_ex (mi := mIt (mFr (mL1 dSortSet (mVar 4)))) (f := gN 6) (b := l_above_bar_1b) (ρ := [some (.d (encG g)), some (.d (encT u)), some (.d (encT v)), some (.d (encT p)), some (.d (encT q)), some (.d (nI a)), x]) (S := T) (wI (sdN q)) (src := srcL (wI (sdN q))) (n := (wI (sdN q)).length + 1) (it_l (by simp [mFr, mL1, mVar, getV, rd, sq'])) (fun _ _ => rfl) rfl
      (fun i ρ S' => barIn g a ((sdN q).take i) = none ∧ S' = T ∧ ∃ y, ρ = [some (.d (encG g)), some (.d (encT u)), some (.d (encT v)), some (.d (encT p)), some (.d (encT q)), some (.d (nI a)), y]) (fun w S' => S' = T ∧ ∃ b, barIn g a (sdN q) = some b ∧ w = .d (encP b)) ⟨rfl, rfl, x, rfl⟩ ?_
    · obtain ⟨fl, ρ', S', h1, h2⟩ := this
      rw [wI_len, List.take_length] at h2
      exact ⟨fl, ρ', S', h1, h2⟩
    · rintro i hi ρ S' ⟨hn, rfl, y, rfl⟩
      have hi' : i < (sdN q).length := by rwa [wI_len] at hi
      have ed : (wI (sdN q))[i] = nI (sdN q)[i] := by simp [wI, nI]
      have fs : f_is_free [.d (encG g), .d (nI a), .d (nI (sdN q)[i])] S' = some (.d (.bool (frB g a (sdN q)[i])), S') := is_free_s g _ _ S'
      refine ⟨[some (.d (encG g)), some (.d (encT u)), some (.d (encT v)), some (.d (encT p)), some (.d (encT q)), some (.d (nI a)), some (.d (nI (sdN q)[i]))], ?_⟩
      cases z : frB g a (sdN q)[i] with
      | true =>
        rw [z] at fs
        refine ⟨.nx, [some (.d (encG g)), some (.d (encT u)), some (.d (encT v)), some (.d (encT p)), some (.d (encT q)), some (.d (nI a)), some (.d (nI (sdN q)[i]))], S', by rw [ed]; rfl, ?_, .inl ⟨rfl, ?_, rfl, some (.d (nI (sdN q)[i])), rfl⟩⟩
        · unfold l_above_bar_1b
          simp only [mIfS, mNot, mBool, mFn, mCons, mNil, mVar, getV, List.getElem?_cons_succ, List.getElem?_cons_zero, Option.join_some, Option.map_some, Option.bind_some, fs, Bool.not_true, Bool.false_eq_true, if_false, mNext]
        · unfold barIn at hn ⊢
          rw [List.take_succ_eq_append_getElem hi', List.findSome?_append, hn]
          simp [z]
      | false =>
        rw [z] at fs
        refine ⟨.rt (.d (encP (a, (sdN q)[i]))), [some (.d (encG g)), some (.d (encT u)), some (.d (encT v)), some (.d (encT p)), some (.d (encT q)), some (.d (nI a)), some (.d (nI (sdN q)[i]))], S', by rw [ed]; rfl, ?_, .inr ⟨_, rfl, rfl, (a, (sdN q)[i]), ?_, rfl⟩⟩
        · unfold l_above_bar_1b
          simp only [mIfS, mNot, mBool, mFn, mCons, mNil, mVar, getV, List.getElem?_cons_succ, List.getElem?_cons_zero, Option.join_some, Option.map_some, Option.bind_some, fs, Bool.not_false, if_true, mRet, mTup, datas, show few 2 = true from rfl, List.length_cons, List.length_nil]
          rfl
        · exact findSome_at hi' hn (by simp [z])
  have hloop : ∃ fl ρ' S', l_above_bar_2 [some (.d (encG g)), some (.d (encT u)), some (.d (encT v)), some (.d (encT p)), some (.d (encT q)), none, none] S = some (fl, ρ', S') ∧ ((fl = .nx ∧ barAll g (sdN p) (sdN q) = none ∧ S' = S ∧ ∃ y z, ρ' = [some (.d (encG g)), some (.d (encT u)), some (.d (encT v)), some (.d (encT p)), some (.d (encT q)), y, z]) ∨ ∃ w, fl = .rt w ∧ S' = S ∧ ∃ b, barAll g (sdN p) (sdN q) = some b ∧ w = .d (encP b)) := by
    unfold l_above_bar_2
    have := mFor_ex (mi := mIt (mFr (mL1 dSortSet (mVar 3)))) (f := gN 5) (b := l_above_bar_2b) (ρ := [some (.d (encG g)), some (.d (encT u)), some (.d (encT v)), some (.d (encT p)), some (.d (encT q)), none, none]) (S := S) (wI (sdN p)) (src := srcL (wI (sdN p))) (n := (wI (sdN p)).length + 1) (it_l (by simp [mFr, mL1, mVar, getV, rd, sp])) (fun _ _ => rfl) rfl
      (fun i ρ S' => barAll g ((sdN p).take i) (sdN q) = none ∧ S' = S ∧ ∃ y z, ρ = [some (.d (encG g)), some (.d (encT u)), some (.d (encT v)), some (.d (encT p)), some (.d (encT q)), y, z]) (fun w S' => S' = S ∧ ∃ b, barAll g (sdN p) (sdN q) = some b ∧ w = .d (encP b)) ⟨rfl, rfl, none, none, rfl⟩ ?_
    · obtain ⟨fl, ρ', S', h1, h2⟩ := this
      rw [wI_len, List.take_length] at h2
      exact ⟨fl, ρ', S', h1, h2⟩
    · rintro i hi ρ S' ⟨hn, rfl, y, z, rfl⟩
      have hi' : i < (sdN p).length := by rwa [wI_len] at hi
      have ed : (wI (sdN p))[i] = nI (sdN p)[i] := by simp [wI, nI]
      obtain ⟨fl, ρ2, S2, e1, e2⟩ := inner S' (sdN p)[i] z
      refine ⟨[some (.d (encG g)), some (.d (encT u)), some (.d (encT v)), some (.d (encT p)), some (.d (encT q)), some (.d (nI (sdN p)[i])), z], fl, ρ2, S2, by rw [ed]; rfl, e1, ?_⟩
      rcases e2 with ⟨rfl, e2, rfl, y', rfl⟩ | ⟨w, rfl, rfl, b, e2, rfl⟩
      · refine .inl ⟨rfl, ?_, rfl, some (.d (nI (sdN p)[i])), y', rfl⟩
        unfold barAll at hn ⊢
        rw [List.take_succ_eq_append_getElem hi', List.findSome?_append, hn]
        simp [e2]
      · refine .inr ⟨_, rfl, rfl, b, ?_, rfl⟩
        exact findSome_at hi' hn e2
  obtain ⟨fl, ρ', S', h1, h2⟩ := hloop
  rcases h2 with ⟨rfl, hr, rfl, y, z, rfl⟩ | ⟨w, rfl, rfl, b, hr, rfl⟩
  · rw [hr]
    simp [b_above_bar, mSeq, mDo, mAsg, mFn, mCons, mNil, mVar, getV, mC, env0, need_two_s g h u v hu hv, rs, gT, gsC, gsN, gN, datas, h1, mRet, outW, optP]
  · rw [hr]
    simp [b_above_bar, mSeq, mDo, mAsg, mFn, mCons, mNil, mVar, getV, mC, env0, need_two_s g h u v hu hv, rs, gT, gsC, gsN, gN, datas, h1, outW, optP]
/-! ### four parts told -/
theorem eqv_Ts : ∀ ws vs : List (List Nat), PyData.eqvAll (ws.map encT) (vs.map encT) = decide (ws = vs)
  | [], [] => by simp [PyData.eqvAll]
  | [], _ :: _ => by simp [PyData.eqvAll]
  | _ :: _, [] => by simp [PyData.eqvAll]
  | w :: ws, v :: vs => by
    show (PyData.eqv (encT w) (encT v) && PyData.eqvAll (ws.map encT) (vs.map encT)) = _
    rw [eqv_T, eqv_Ts ws vs]
    rw [Bool.eq_iff_iff]
    simp
theorem shal_Ts (k : Nat) (ws : List (List Nat)) : (ws.map encT).all (shal (k + 1)) = true := by
  rw [List.all_map, List.all_eq_true]
  intro w _
  exact shal_T k w
theorem dEq_Ts (t : Bool) (ws vs : List (List Nat)) : dEq (encTs t ws) (encTs t vs) = some (.bool (decide (ws = vs))) := by
  unfold dEq encTs
  cases t
  · have : shal 9 (.list (ws.map encT)) = true := shal_Ts 7 ws
    simp only [this, Bool.true_or, if_true, Bool.false_eq_true, if_false]
    exact congrArg some (congrArg PyData.bool (eqv_Ts ws vs))
  · have : shal 9 (.tuple (ws.map encT)) = true := shal_Ts 7 ws
    simp only [this, Bool.true_or, if_true]
    exact congrArg some (congrArg PyData.bool (eqv_Ts ws vs))
theorem are_four_parts_s (g : Gr) (h : OkG g) (x y z t p q r s : List Nat) (hx : Pile g h x) (hy : Pile g h y) (hz : Pile g h z) (ht : Pile g h t) (hp : Pile g h p) (hq : Pile g h q) (hr : Pile g h r) (hs : Pile g h s) (S : Sto) :
    f_are_four_parts [.d (encG g), .d (encT x), .d (encT y), .d (encT z), .d (encT t), .d (.tuple [encT p, encT q, encT r, encT s])] S = some (.d (.bool (decide ([lst (fr g h) (p ++ q), lst (fr g h) (r ++ s), lst (fr g h) (p ++ r), lst (fr g h) (q ++ s)] = [x, y, z, t]) && apB g q r)), S) := by
  unfold f_are_four_parts
  rw [fnM_at rfl]
  have lp := hp.len
  have lq := hq.len
  have lr := hr.len
  have ls := hs.len
  have nf : f_need_four [.d (encG g), .d (.tuple [encT x, encT y, encT z, encT t])] S = some (.d .none, S) := need_four_s g h [x, y, z, t] (by
    intro w hw
    simp only [List.mem_cons, List.not_mem_nil, or_false] at hw
    rcases hw with rfl | rfl | rfl | rfl <;> assumption) S
  have it : f_is_tuple_of [.d (.tuple [encT p, encT q, encT r, encT s]), .d (.int 4), .d (.int 4)] S = some (.d (.bool true), S) := is_tuple_of_s [encT p, encT q, encT r, encT s] 4 4 S
  have c1 : ∀ x7 x8 x9 x10 x11, c_are_four_parts_1 [some (.d (encG g)), some (.d (encT x)), some (.d (encT y)), some (.d (encT z)), some (.d (encT t)), some (.d (.tuple [encT p, encT q, encT r, encT s])), none, x7, x8, x9, x10, x11] S = some ([p, q, r, s].map fun _ => .bool true, S) := fun x7 x8 x9 x10 x11 => by
    unfold c_are_four_parts_1
    rw [mLc_onm encT [p, q, r, s] (src := srcL [encT p, encT q, encT r, encT s]) (n := 5) (it_t (ds := [encT p, encT q, encT r, encT s]) rfl) (fun _ _ => rfl) rfl (by simp) (fun w => [some (.d (encG g)), some (.d (encT x)), some (.d (encT y)), some (.d (encT z)), some (.d (encT t)), some (.d (.tuple [encT p, encT q, encT r, encT s])), some (.d (encT w)), x7, x8, x9, x10, x11]) (fun _ => .bool true) (fun _ _ => rfl) fun w hw => is_pile_of_s g h w (by
      simp only [List.mem_cons, List.not_mem_nil, or_false] at hw
      rcases hw with rfl | rfl | rfl | rfl <;> assumption) S]
  have ha := all_map (fun _ : List Nat => true) [p, q, r, s]
  have c2 : c_are_four_parts_2 [some (.d (encG g)), some (.d (encT x)), some (.d (encT y)), some (.d (encT z)), some (.d (encT t)), some (.d (.tuple [encT p, encT q, encT r, encT s])), none, some (.d (encT p)), some (.d (encT q)), some (.d (encT r)), some (.d (encT s)), none] S = some ([lst (fr g h) (p ++ q), lst (fr g h) (r ++ s), lst (fr g h) (p ++ r), lst (fr g h) (q ++ s)].map encT, S) := by
    unfold c_are_four_parts_2
    have a1 : dAdd (encT p) (encT q) = some (encT (p ++ q)) := add_sq true p q (by omega)
    have a2 : dAdd (encT r) (encT s) = some (encT (r ++ s)) := add_sq true r s (by omega)
    have a3 : dAdd (encT p) (encT r) = some (encT (p ++ r)) := add_sq true p r (by omega)
    have a4 : dAdd (encT q) (encT s) = some (encT (q ++ s)) := add_sq true q s (by omega)
    rw [mLc_onm encT [p ++ q, r ++ s, p ++ r, q ++ s] (src := srcL [encT (p ++ q), encT (r ++ s), encT (p ++ r), encT (q ++ s)]) (n := 5) (it_t (ds := [encT (p ++ q), encT (r ++ s), encT (p ++ r), encT (q ++ s)]) (by simp [mTup, mCons, mNil, mBin, mVar, getV, rd, a1, a2, a3, a4, datas, show few 4 = true from rfl])) (fun _ _ => rfl) rfl (by simp) (fun w => [some (.d (encG g)), some (.d (encT x)), some (.d (encT y)), some (.d (encT z)), some (.d (encT t)), some (.d (.tuple [encT p, encT q, encT r, encT s])), some (.d (encT w)), some (.d (encT p)), some (.d (encT q)), some (.d (encT r)), some (.d (encT s)), none]) (fun w => encT (lst (fr g h) w)) (fun _ _ => rfl) fun w hw => least_s g h true w (by
      simp only [List.mem_cons, List.not_mem_nil, or_false] at hw
      rcases hw with rfl | rfl | rfl | rfl <;> (rw [List.length_append]; omega)) S]
    rfl
  have ap : f_apart_in [.d (encG g), .d (encT q), .d (encT r)] S = some (.d (.bool (apB g q r)), S) := apart_in_s g true true q r (by omega) (by omega) S
  have de := dEq_Ts false [lst (fr g h) (p ++ q), lst (fr g h) (r ++ s), lst (fr g h) (p ++ r), lst (fr g h) (q ++ s)] [x, y, z, t]
  have de : dEq (.list ([lst (fr g h) (p ++ q), lst (fr g h) (r ++ s), lst (fr g h) (p ++ r), lst (fr g h) (q ++ s)].map encT)) (.list [encT x, encT y, encT z, encT t]) = _ := de
  generalize hD : decide ([lst (fr g h) (p ++ q), lst (fr g h) (r ++ s), lst (fr g h) (p ++ r), lst (fr g h) (q ++ s)] = [x, y, z, t]) = D at *
  generalize [lst (fr g h) (p ++ q), lst (fr g h) (r ++ s), lst (fr g h) (p ++ r), lst (fr g h) (q ++ s)] = L at *
  have ha : dAll [.list [.bool true, .bool true, .bool true, .bool true]] = some (.bool true) := rfl
  cases D <;> simp [b_are_four_parts, mSeq, mDo, mFn, mTup, mCons, mNil, mVar, getV, env0, datas, show few 4 = true from rfl, nf, mIfS, mOr, mNot, mBool, mC, it, mCall, mFr, c1, ha, rds, rd, mNext, mAsg, gT, gsC, gsN, gN, mSet, c2, mRet, mAndV, mBin, mDisp, de, ap, outW, -List.map_map]
end PL
set_option linter.all false
set_option maxRecDepth 100000
/-! P31: the draws. -/
namespace PL
open PySem Ev LW Tr
structure Cup where
  a : Nat
  b : Nat
def cupC (c : Cup) : Cell := .lst [nI c.a, nI c.b]
theorem mod_nat (a m : Nat) (h : 0 < m) : dMod (nI a) (nI m) = some (nI (a % m)) := by
  show (if ((m : Int) != 0) then some (PyData.int ((a : Int).fmod (m : Int))) else none) = _
  have : ((m : Int) != 0) = true := by rw [bne_iff_ne]; omega
  rw [if_pos this, Int.fmod_eq_emod_of_nonneg _ (by omega)]
  rfl
theorem fdiv_nat (a m : Nat) (h : 0 < m) (h2 : m < 1073741824) : dFdiv (nI a) (nI m) = some (nI (a / m)) := by
  show (if ((m : Int) != 0 && Nat.blt (m : Int).natAbs 1073741824) then some (PyData.int ((a : Int).fdiv (m : Int))) else none) = _
  have : ((m : Int) != 0 && Nat.blt (m : Int).natAbs 1073741824) = true := by
    rw [Bool.and_eq_true, bne_iff_ne, Nat.blt_eq]; omega
  rw [if_pos this, Int.fdiv_eq_ediv_of_nonneg _ (by omega)]
  rfl
theorem mul_small (a b : Nat) (h : b < 18446744073709551616) : dMul (nI a) (nI b) = some (nI (a * b)) := by
  show (if isSmall (a : Nat) || isSmall (b : Nat) then some (PyData.int ((a : Int) * (b : Int))) else none) = _
  have : isSmall (b : Nat) = true := by unfold isSmall; rw [Nat.blt_eq]; omega
  rw [this, Bool.or_true, if_pos rfl]
  rfl
theorem add_nat (a b : Nat) : dAdd (nI a) (nI b) = some (nI (a + b)) := rfl
theorem gt_nat (a b : Nat) : dGt (nI a) (nI b) = some (.bool (decide (b < a))) := dLt_nat b a
theorem take_self {α : Type} (x : α) (T : List α) : (x :: T).take (x :: T).length = x :: T := List.take_length
theorem roll_s (c : Cup) (T : Sto) (m : Nat) (h1 : 0 < m) (h2 : m < 1000000) : ∃ k c', k < m ∧ f__law_roll [.r 0, .d (nI m)] (cupC c :: T) = some (.d (nI k), cupC c' :: T) := by
  unfold f__law_roll
  rw [fnM_at rfl]
  have rc : ∀ c : Cup, rd (cupC c :: T) (.r 0) = some (.list [nI c.a, nI c.b]) := fun c => rfl
  have rd' : ∀ (S : Sto) (d : PyData), rd S (.d d) = some d := fun _ _ => rfl
  have i0 : ∀ x y : PyData, dIx (.list [x, y]) (.int 0) = some x := fun _ _ => rfl
  have i1 : ∀ x y : PyData, dIx (.list [x, y]) (.int 1) = some y := fun _ _ => rfl
  have di : ∀ a, dInt [nI a] = some (nI a) := fun _ => rfl
  have g0 : dGt (nI c.a) (.int 0) = some (.bool (decide (0 < c.a))) := gt_nat c.a 0
  by_cases q : 0 < c.a
  · refine ⟨c.a % m, ⟨c.a / m, c.b⟩, Nat.mod_lt _ h1, ?_⟩
    rw [decide_eq_true q] at g0
    have e1 := mod_nat c.a m h1
    have e2 := fdiv_nat c.a m h1 (by omega)
    have sx : ixS 2 0 = some 0 := rfl
    have cc : (cupC c :: T)[0]? = some (.lst [nI c.a, nI c.b]) := rfl
    have ss : (cupC c :: T).set 0 (.lst ([nI c.a, nI c.b].set 0 (nI (c.a / m)))) = cupC ⟨c.a / m, c.b⟩ :: T := rfl
    simp only [b__law_roll, env0, List.map_cons, List.map_nil, List.length_cons, List.length_nil, List.replicate, List.cons_append, List.nil_append, mSeq, mIfS, mBool, mBin, mVar, getV, List.getElem?_cons_succ, List.getElem?_cons_zero, Option.join_some, Option.map_some, Option.bind_some, mC, rc, rd', i0, g0, if_true, mSet, mCall, mCons, mNil, rds, di, e1, mSubL, e2, cc, sx, datW, ss, List.set_cons_succ, List.set_cons_zero, mRet, outW]
    simp
    rfl
  · have hb : 0 < 1048576 := by decide
    refine ⟨(c.b * 25349 + 52501) % 1048576 / 151 % m, ⟨c.a, (c.b * 25349 + 52501) % 1048576⟩, Nat.mod_lt _ h1, ?_⟩
    rw [decide_eq_false q] at g0
    have m1 : dMul (nI c.b) (.int 25349) = some (nI (c.b * 25349)) := mul_small c.b 25349 (by decide)
    have a1 : dAdd (nI (c.b * 25349)) (.int 52501) = some (nI (c.b * 25349 + 52501)) := add_nat _ 52501
    have e1 : dMod (nI (c.b * 25349 + 52501)) (.int 1048576) = some (nI ((c.b * 25349 + 52501) % 1048576)) := mod_nat _ 1048576 hb
    generalize (c.b * 25349 + 52501) % 1048576 = B at *
    have e2 : dFdiv (nI B) (.int 151) = some (nI (B / 151)) := fdiv_nat B 151 (by decide) (by decide)
    have e3 := mod_nat (B / 151) m h1
    have sx : ixS 2 1 = some 1 := rfl
    have cc : (cupC c :: T)[0]? = some (.lst [nI c.a, nI c.b]) := rfl
    have ss : (cupC c :: T).set 0 (.lst ([nI c.a, nI c.b].set 1 (nI B))) = cupC ⟨c.a, B⟩ :: T := rfl
    simp only [b__law_roll, env0, List.map_cons, List.map_nil, List.length_cons, List.length_nil, List.replicate, List.cons_append, List.nil_append, mSeq, mIfS, mBool, mBin, mVar, getV, List.getElem?_cons_succ, List.getElem?_cons_zero, Option.join_some, Option.map_some, Option.bind_some, mC, rc, rd', i0, i1, g0, Bool.false_eq_true, if_false, mNext, mCall, mCons, mNil, rds, di, m1, a1, e1, mSubL, cc, sx, datW, ss, mRet, e2, e3, outW]
    simp
theorem some_s {α : Type} (e : α → PyData) (c : Cup) (T : Sto) (ws : List α) (hne : ws ≠ []) (hl : ws.length < 1000000) : ∃ w c', w ∈ ws ∧ f__law_some [.r 0, .d (.list (ws.map e))] (cupC c :: T) = some (.d (e w), cupC c' :: T) := by
  have hp : 0 < ws.length := List.length_pos_iff.mpr hne
  obtain ⟨k, c', hk, hr⟩ := roll_s c T ws.length hp hl
  have ln : dLen [.list (ws.map e)] = some (nI ws.length) := by
    show some (PyData.int ((ws.map e).length : Nat)) = _
    rw [List.length_map]; rfl
  have ix : dIx (.list (ws.map e)) (nI k) = some (e ws[k]) := by
    show ixD (ws.map e) (k : Int) = _
    rw [ixD_nat, List.getElem?_map, List.getElem?_eq_getElem hk]
    rfl
  refine ⟨ws[k], c', List.getElem_mem hk, ?_⟩
  unfold f__law_some
  rw [fnM_at rfl]
  have rd' : ∀ (S : Sto) (d : PyData), rd S (.d d) = some d := fun _ _ => rfl
  simp only [b__law_some, env0, List.map_cons, List.map_nil, List.length_cons, List.length_nil, List.replicate, List.cons_append, List.nil_append, mRet, mBin, mVar, getV, List.getElem?_cons_succ, List.getElem?_cons_zero, Option.join_some, Option.map_some, Option.bind_some, mFn, mCall, mCons, mNil, rds, rd', ln, hr, ix, outW]
  simp
/-! ### alike -/
def lk : Nat → PyData → Bool
  | 0, _ => false
  | n + 1, .list xs => Nat.ble xs.length 900000 && xs.all (lk n)
  | n + 1, .tuple xs => Nat.ble xs.length 900000 && xs.all (lk n)
  | n + 1, .dict _ => false
  | n + 1, _ => true
def zz (x : PyData) : PyData := .tuple [x, x]
theorem zip_src (xs : List PyData) (i : Nat) (S : Sto) : srcZ (srcL xs) (srcL xs) i S = srcL (xs.map zz) i S := by
  show some (zip2 xs[i]? xs[i]?) = some (xs.map zz)[i]?
  rw [List.getElem?_map]
  cases xs[i]? <;> rfl
theorem like_seq (f : FW) (t : Bool) (xs : List PyData) (hl : xs.length ≤ 900000) (hf : ∀ x ∈ xs, ∀ S, f [.d x, .d x] S = some (.d (.bool true), S)) (S : Sto) (w : PyData) (hw : w = if t then .tuple xs else .list xs) (x3 x4 : Option Wv) :
    c__law_like_1 f [some (.d w), some (.d w), some (.d (nI (if t then 4 else 5))), x3, x4] S = some ([], S) := by
  unfold c__law_like_1
  have hz : mZip (mVar 0) (mVar 1) [some (.d w), some (.d w), some (.d (nI (if t then 4 else 5))), x3, x4] S = some ((srcZ (srcL xs) (srcL xs), xs.length + 1), S) := by
    subst hw
    cases t <;> rfl
  rw [mLc_on zz xs hz (fun i S => zip_src xs i S) rfl (by omega) (fun x => [some (.d w), some (.d w), some (.d (nI (if t then 4 else 5))), some (.d x), some (.d x)]) (fun _ => false) (fun _ => .int 1) (fun _ _ => rfl) (fun x hx => by
    have := hf x hx S
    simp [mNot, mBool, mFn, mCons, mNil, mVar, getV, this]) (fun _ _ z => by cases z)]
  rw [List.filter_eq_nil_iff.mpr (by simp)]
  rfl
theorem eqv_self : ∀ (n : Nat) (x : PyData), lk n x = true → PyData.eqv x x = true
  | 0, x, h => by simp [lk] at h
  | n + 1, x, h => by
    have all : ∀ xs : List PyData, xs.all (lk n) = true → PyData.eqvAll xs xs = true := fun xs => by
      induction xs with
      | nil => intro _; rfl
      | cons y ys ih =>
        intro h
        rw [List.all_cons, Bool.and_eq_true] at h
        show (PyData.eqv y y && PyData.eqvAll ys ys) = true
        rw [eqv_self n y h.1, ih h.2]; rfl
    cases x with
    | none => rfl
    | bool b => cases b <;> rfl
    | int i => rw [eqv_int]; simp
    | str s => show (s == s) = true; simp
    | list xs => unfold lk at h; rw [Bool.and_eq_true] at h; exact all xs h.2
    | tuple xs => unfold lk at h; rw [Bool.and_eq_true] at h; exact all xs h.2
    | dict kvs => simp [lk] at h
theorem like_s : ∀ (n : Nat) (x : PyData), lk n x = true → ∀ S : Sto, r__law_like n [.d x, .d x] S = some (.d (.bool true), S)
  | 0, x, h, S => by simp [lk] at h
  | n + 1, x, h, S => by
    show fnM false 2 5 (b__law_like (r__law_like n)) [.d x, .d x] S = _
    rw [fnM_at rfl]
    have rd' : ∀ (S : Sto) (d : PyData), rd S (.d d) = some d := fun _ _ => rfl
    have srt : ∀ (k : Nat), f__law_sort [.d x] S = some (.d (nI k), S) → dNe (nI k) (nI k) = some (.bool false) := fun k _ => by
      show (if shal 9 (nI k) || shal 9 (nI k) then some (PyData.bool (!PyData.eqv (nI k) (nI k))) else none) = _
      rw [show shal 9 (nI k) = true from rfl]
      unfold nI
      rw [eqv_int]
      simp
    have leaf : (∃ k, (k = 0 ∨ k = 1 ∨ k = 2 ∨ k = 3) ∧ f__law_sort [.d x] S = some (.d (nI k), S)) → dEq x x = some (.bool true) → (b__law_like (r__law_like n) (env0 5 [.d x, .d x]) S).bind (fun p => match p.1 with | .rt w => outW false S.length w p.2.2 | .nx => some (.d .none, p.2.2.take S.length) | _ => none) = some (.d (.bool true), S) := by
      rintro ⟨k, hk, hs⟩ he
      have hn := srt k hs
      have h6 : dEq (nI k) (.int 6) = some (.bool false) := by
        rcases hk with rfl | rfl | rfl | rfl <;> rfl
      have h45 : dIn (nI k) (.tuple [.int 4, .int 5]) = some (.bool false) := by
        rcases hk with rfl | rfl | rfl | rfl <;> rfl
      simp [b__law_like, mSeq, mSet, mFn, mCons, mNil, mVar, getV, env0, hs, mIfS, mOr, mBool, mBin, rd', hn, mC, h6, mNext, mTup, datas, show few 2 = true from rfl, h45, mRet, he, outW]
    have node : ∀ (t : Bool) (xs : List PyData), x = (if t then .tuple xs else .list xs) → xs.length ≤ 900000 → xs.all (lk n) = true → (b__law_like (r__law_like n) (env0 5 [.d x, .d x]) S).bind (fun p => match p.1 with | .rt w => outW false S.length w p.2.2 | .nx => some (.d .none, p.2.2.take S.length) | _ => none) = some (.d (.bool true), S) := fun t xs hx hl ha => by
      have hs : f__law_sort [.d x] S = some (.d (nI (if t then 4 else 5)), S) := by
        subst hx
        cases t <;> (unfold f__law_sort; rw [fnM_at rfl]; simp [b__law_sort, env0, mRet, mSeq, mSet, mDo, mNext, mNever, mIfS, mAsg, mUnp, mPar, mPar3, mBin, mIf, mBool, mAnd, mOr, mNot, mAndV, mOrV, mNotV, mVar, getV, mTup, mFr, mNew, mDisp, mCons, mNil, mC, mNeg, mFn, mCall, rds, rd, datas, datW, dIx, ixD, outW, mIsa, mChain, mSl, mNoP, mPart, mIt, srcW, mEnum, gN, gT, gsC, gsN, mRetN, mBrk, dIs, nonD, PyData.isBool, PyData.isInt, PyData.isStr, PyData.isTuple, PyData.isList, nI])
      have hn := srt _ hs
      have h6 : dEq (nI (if t then 4 else 5)) (.int 6) = some (.bool false) := by cases t <;> rfl
      have h45 : dIn (nI (if t then 4 else 5)) (.tuple [.int 4, .int 5]) = some (.bool true) := by cases t <;> rfl
      have hlen : dLen [x] = some (nI xs.length) := by subst hx; cases t <;> rfl
      have hle : dEq (nI xs.length) (nI xs.length) = some (.bool true) := by
        have := dEq_nat xs.length xs.length
        rw [decide_eq_true rfl] at this
        exact this
      have lq := like_seq (r__law_like n) t xs hl (fun y hy S => like_s n y (List.all_eq_true.mp ha y hy) S) S x hx none none
      have h0 : dEq (.list []) (.list []) = some (.bool true) := rfl
      generalize (if t then 4 else 5) = k at *
      simp [b__law_like, mSeq, mSet, mFn, mCons, mNil, mVar, getV, env0, hs, mIfS, mOr, mBool, mBin, rd', hn, mC, h6, mNext, mTup, datas, show few 2 = true from rfl, show few 0 = true from rfl, h45, mRet, mAndV, mCall, rds, hlen, hle, mFr, lq, mDisp, h0, outW]
    cases x with
    | none => exact leaf ⟨0, by simp, by unfold f__law_sort; rw [fnM_at rfl]; simp [b__law_sort, env0, mRet, mSeq, mSet, mDo, mNext, mNever, mIfS, mAsg, mUnp, mPar, mPar3, mBin, mIf, mBool, mAnd, mOr, mNot, mAndV, mOrV, mNotV, mVar, getV, mTup, mFr, mNew, mDisp, mCons, mNil, mC, mNeg, mFn, mCall, rds, rd, datas, datW, dIx, ixD, outW, mIsa, mChain, mSl, mNoP, mPart, mIt, srcW, mEnum, gN, gT, gsC, gsN, mRetN, mBrk, dIs, nonD, PyData.isBool, PyData.isInt, PyData.isStr, PyData.isTuple, PyData.isList, nI]⟩ rfl
    | bool b => exact leaf ⟨1, by simp, by unfold f__law_sort; rw [fnM_at rfl]; simp [b__law_sort, env0, mRet, mSeq, mSet, mDo, mNext, mNever, mIfS, mAsg, mUnp, mPar, mPar3, mBin, mIf, mBool, mAnd, mOr, mNot, mAndV, mOrV, mNotV, mVar, getV, mTup, mFr, mNew, mDisp, mCons, mNil, mC, mNeg, mFn, mCall, rds, rd, datas, datW, dIx, ixD, outW, mIsa, mChain, mSl, mNoP, mPart, mIt, srcW, mEnum, gN, gT, gsC, gsN, mRetN, mBrk, dIs, nonD, PyData.isBool, PyData.isInt, PyData.isStr, PyData.isTuple, PyData.isList, nI]⟩ (by cases b <;> rfl)
    | int i => exact leaf ⟨2, by simp, by unfold f__law_sort; rw [fnM_at rfl]; simp [b__law_sort, env0, mRet, mSeq, mSet, mDo, mNext, mNever, mIfS, mAsg, mUnp, mPar, mPar3, mBin, mIf, mBool, mAnd, mOr, mNot, mAndV, mOrV, mNotV, mVar, getV, mTup, mFr, mNew, mDisp, mCons, mNil, mC, mNeg, mFn, mCall, rds, rd, datas, datW, dIx, ixD, outW, mIsa, mChain, mSl, mNoP, mPart, mIt, srcW, mEnum, gN, gT, gsC, gsN, mRetN, mBrk, dIs, nonD, PyData.isBool, PyData.isInt, PyData.isStr, PyData.isTuple, PyData.isList, nI]⟩ (by
        show (if shal 9 (PyData.int i) || shal 9 (PyData.int i) then some (PyData.bool (PyData.eqv (.int i) (.int i))) else none) = _
        rw [eqv_int]; simp [shal])
    | str s => exact leaf ⟨3, by simp, by unfold f__law_sort; rw [fnM_at rfl]; simp [b__law_sort, env0, mRet, mSeq, mSet, mDo, mNext, mNever, mIfS, mAsg, mUnp, mPar, mPar3, mBin, mIf, mBool, mAnd, mOr, mNot, mAndV, mOrV, mNotV, mVar, getV, mTup, mFr, mNew, mDisp, mCons, mNil, mC, mNeg, mFn, mCall, rds, rd, datas, datW, dIx, ixD, outW, mIsa, mChain, mSl, mNoP, mPart, mIt, srcW, mEnum, gN, gT, gsC, gsN, mRetN, mBrk, dIs, nonD, PyData.isBool, PyData.isInt, PyData.isStr, PyData.isTuple, PyData.isList, nI]⟩ (by
        show (if shal 9 (PyData.str s) || shal 9 (PyData.str s) then some (PyData.bool (s == s)) else none) = _
        simp [shal])
    | list xs =>
      unfold lk at h
      rw [Bool.and_eq_true] at h
      exact node false xs rfl (Nat.le_of_ble_eq_true h.1) h.2
    | tuple xs =>
      unfold lk at h
      rw [Bool.and_eq_true] at h
      exact node true xs rfl (Nat.le_of_ble_eq_true h.1) h.2
    | dict kvs => simp [lk] at h
theorem law_like_s (x : PyData) (h : lk 6 x = true) (S : Sto) : f__law_like [.d x, .d x] S = some (.d (.bool true), S) := like_s 6 x h S
end PL
set_option linter.all false
set_option maxRecDepth 100000
/-! P32: drawn letters. -/
namespace PL
open PySem Ev LW Tr
theorem it_rgN {ρ : Env'} {S S' : Sto} {lo hi : Nat} {mm : M (List Wv)} (h : mm ρ S = some ([.d (nI lo), .d (nI hi)], S')) (h1 : lo < 100000) (h2 : hi < 100000) : mRg2 mm ρ S = some ((srcR lo (hi - lo), hi - lo + 1), S') := by
  unfold mRg2
  rw [h]
  have e1 : rgOk (lo : Int) = true := by unfold rgOk; rw [Nat.blt_eq]; omega
  have e2 : rgOk (hi : Int) = true := by unfold rgOk; rw [Nat.blt_eq]; omega
  have e3 : ((hi : Int) - (lo : Int)).toNat = hi - lo := by omega
  simp only [Option.bind_some, nI, e1, e2, e3, Bool.and_self, if_true]
theorem src_rgN (lo n i : Nat) (S : Sto) : srcR (lo : Nat) n i S = srcL ((List.range n).map fun j => nI (lo + j)) i S := by
  rw [srcR_L]
  unfold rgL
  congr 1
abbrev lexP (p q : Nat × Nat) : Prop := p.1 < q.1 ∨ (p.1 = q.1 ∧ p.2 < q.2)
structure PsOk (n a b : Nat) (ps : List (Nat × Nat)) : Prop where
  ok : ∀ p ∈ ps, p.1 < p.2 ∧ p.2 < n ∧ (p.1 < a ∨ (p.1 = a ∧ p.2 < b))
  srt : ps.Pairwise lexP
  len : ps.length ≤ a * 8 + b
def encPs (t : Bool) (ps : List (Nat × Nat)) : PyData := if t then .tuple (ps.map encP) else .list (ps.map encP)
theorem PsOk.add {n a b : Nat} {ps : List (Nat × Nat)} (h : PsOk n a b ps) (hab : a < b) (hb : b < n) : PsOk n a (b + 1) (ps ++ [(a, b)]) where
  ok := fun p hp => by
    rcases List.mem_append.mp hp with hp | hp
    · have := h.ok p hp; omega
    · rw [List.mem_singleton.mp hp]; exact ⟨hab, hb, .inr ⟨rfl, Nat.lt_succ_self b⟩⟩
  srt := by
    rw [List.pairwise_append]
    refine ⟨h.srt, by simp, fun p hp q hq => ?_⟩
    rw [List.mem_singleton.mp hq]
    exact (h.ok p hp).2.2
  len := by rw [List.length_append, List.length_singleton]; have := h.len; omega
theorem PsOk.skip {n a b : Nat} {ps : List (Nat × Nat)} (h : PsOk n a b ps) : PsOk n a (b + 1) ps where
  ok := fun p hp => by have := h.ok p hp; omega
  srt := h.srt
  len := by have := h.len; omega
theorem PsOk.next {n a : Nat} {ps : List (Nat × Nat)} (h : PsOk n a n ps) (hn : n ≤ 8) : PsOk n (a + 1) 0 ps where
  ok := fun p hp => by have := h.ok p hp; omega
  srt := h.srt
  len := by have := h.len; omega
theorem PsOk.start {n a : Nat} {ps : List (Nat × Nat)} (h : PsOk n a 0 ps) : PsOk n a (a + 1) ps where
  ok := fun p hp => by have := h.ok p hp; omega
  srt := h.srt
  len := by have := h.len; omega
theorem l_letters_1 (T : Sto) (n a : Nat) (hn : n ≤ 8) (ha : a < n) (most : Option Wv) (c : Cup) (ps : List (Nat × Nat)) (hp : PsOk n a (a + 1) ps) (x : Option Wv) :
    ∃ c' ps' x', PsOk n a n ps' ∧ l__law_letters_1 [some (.r 0), most, some (.d (nI n)), some (.d (encPs false ps)), some (.d (nI a)), x] (cupC c :: T) = some (.nx, [some (.r 0), most, some (.d (nI n)), some (.d (encPs false ps')), some (.d (nI a)), x'], cupC c' :: T) := by
  unfold l__law_letters_1
  have := mFor_inv (mi := mRg2 (mCons (mBin dAdd (mVar 4) (mC (.int 1))) (mCons (mVar 2) mNil))) (f := gN 5) (b := l__law_letters_1b) (ρ := [some (.r 0), most, some (.d (nI n)), some (.d (encPs false ps)), some (.d (nI a)), x]) (S := cupC c :: T) ((List.range (n - (a + 1))).map fun j => nI (a + 1 + j)) (src := srcR ((a + 1 : Nat) : Int) (n - (a + 1))) (n := n - (a + 1) + 1) (it_rgN (by
      have : dAdd (nI a) (.int 1) = some (nI (a + 1)) := add_nat a 1
      simp [mCons, mNil, mBin, mVar, getV, mC, rd, this]) (by omega) (by omega)) (fun i S => src_rgN _ _ i S) (by rw [List.length_map, List.length_range])
    (fun i ρ S' => ∃ c' ps' x', PsOk n a (a + 1 + i) ps' ∧ ρ = [some (.r 0), most, some (.d (nI n)), some (.d (encPs false ps')), some (.d (nI a)), x'] ∧ S' = cupC c' :: T) ⟨c, ps, x, hp, rfl, rfl⟩ ?_
  · obtain ⟨ρ', S', h1, c', ps', x', h2, rfl, rfl⟩ := this
    rw [List.length_map, List.length_range, show a + 1 + (n - (a + 1)) = n by omega] at h2
    exact ⟨c', ps', x', h2, h1⟩
  · rintro i hi ρ S' ⟨c', ps', x', hp', rfl, rfl⟩
    have hi' : i < n - (a + 1) := by simpa using hi
    have ed : ((List.range (n - (a + 1))).map fun j => nI (a + 1 + j))[i] = nI (a + 1 + i) := by simp
    obtain ⟨k, c2, hk, hr⟩ := roll_s c' T 2 (by decide) (by decide)
    have hr : f__law_roll [.r 0, .d (.int 2)] (cupC c' :: T) = some (.d (nI k), cupC c2 :: T) := hr
    have e0 : dEq (nI k) (.int 0) = some (.bool (decide (k = 0))) := dEq_nat k 0
    have hlen := hp'.len
    by_cases q : k = 0
    · subst q
      have e0 : dEq (nI 0) (.int 0) = some (.bool true) := e0
      have ad : dAdd (encPs false ps') (.list [.tuple [nI a, nI (a + 1 + i)]]) = some (encPs false (ps' ++ [(a, a + 1 + i)])) := by
        refine (add_list _ _ (by rw [List.length_map]; simp; omega)).trans ?_
        unfold encPs
        rw [List.map_append]
        rfl
      refine ⟨[some (.r 0), most, some (.d (nI n)), some (.d (encPs false ps')), some (.d (nI a)), some (.d (nI (a + 1 + i)))], [some (.r 0), most, some (.d (nI n)), some (.d (encPs false (ps' ++ [(a, a + 1 + i)]))), some (.d (nI a)), some (.d (nI (a + 1 + i)))], cupC c2 :: T, by rw [ed]; rfl, ?_, c2, ps' ++ [(a, a + 1 + i)], some (.d (nI (a + 1 + i))), hp'.add (by omega) (by omega), rfl, rfl⟩
      unfold l__law_letters_1b
      simp [mSet, mBin, mVar, getV, mIf, mBool, mFn, mCons, mNil, mC, hr, rd, e0, mFr, mDisp, mTup, datas, show few 1 = true from rfl, show few 2 = true from rfl, ad]
    · have e0 : dEq (nI k) (.int 0) = some (.bool false) := by rw [e0, decide_eq_false q]
      have ad : dAdd (encPs false ps') (.list []) = some (encPs false ps') := by
        refine (add_list _ _ (by rw [List.length_map]; simp; omega)).trans ?_
        rw [List.append_nil]
        rfl
      refine ⟨[some (.r 0), most, some (.d (nI n)), some (.d (encPs false ps')), some (.d (nI a)), some (.d (nI (a + 1 + i)))], [some (.r 0), most, some (.d (nI n)), some (.d (encPs false ps')), some (.d (nI a)), some (.d (nI (a + 1 + i)))], cupC c2 :: T, by rw [ed]; rfl, ?_, c2, ps', some (.d (nI (a + 1 + i))), hp'.skip, rfl, rfl⟩
      unfold l__law_letters_1b
      simp [mSet, mBin, mVar, getV, mIf, mBool, mFn, mCons, mNil, mC, hr, rd, e0, mFr, mDisp, datas, show few 0 = true from rfl, ad]
theorem letters_s (c : Cup) (T : Sto) (most : Nat) (h1 : 1 ≤ most) (h8 : most ≤ 8) : ∃ g c', OkG g ∧ g.n ≤ most ∧ f__law_letters [.r 0, .d (nI most)] (cupC c :: T) = some (.d (encG g), cupC c' :: T) := by
  unfold f__law_letters
  rw [fnM_at rfl]
  obtain ⟨k, c1, hk, hr⟩ := roll_s c T most (by omega) (by omega)
  have ad : dAdd (.int 1) (nI k) = some (nI (k + 1)) := by
    show some (PyData.int (1 + (k : Int))) = _
    unfold nI
    congr 2
    omega
  have hloop : ∃ ρ' S', l__law_letters_2 [some (.r 0), some (.d (nI most)), some (.d (nI (k + 1))), some (.d (encPs false [])), none, none] (cupC c1 :: T) = some (.nx, ρ', S') ∧ ∃ c' ps' x y, PsOk (k + 1) (k + 1) 0 ps' ∧ ρ' = [some (.r 0), some (.d (nI most)), some (.d (nI (k + 1))), some (.d (encPs false ps')), x, y] ∧ S' = cupC c' :: T := by
    unfold l__law_letters_2
    have := mFor_inv (mi := mRg1 (mCons (mVar 2) mNil)) (f := gN 4) (b := l__law_letters_2b) (ρ := [some (.r 0), some (.d (nI most)), some (.d (nI (k + 1))), some (.d (encPs false [])), none, none]) (S := cupC c1 :: T) ((List.range (k + 1)).map nI) (src := srcR 0 (k + 1)) (n := k + 1 + 1) (it_rg (by simp [mCons, mNil, mVar, getV, nI]) (by omega)) (fun i S => src_rg _ i S) (by rw [List.length_map, List.length_range])
      (fun i ρ S' => ∃ c' ps' x y, PsOk (k + 1) i 0 ps' ∧ ρ = [some (.r 0), some (.d (nI most)), some (.d (nI (k + 1))), some (.d (encPs false ps')), x, y] ∧ S' = cupC c' :: T) ⟨c1, [], none, none, ⟨by simp, by simp, by simp⟩, rfl, rfl⟩ ?_
    · rw [List.length_map, List.length_range] at this
      exact this
    · rintro i hi ρ S' ⟨c', ps', x, y, hp, rfl, rfl⟩
      have hi' : i < k + 1 := by simpa using hi
      have ed : ((List.range (k + 1)).map nI)[i] = nI i := by simp
      obtain ⟨c2, ps2, x2, hp2, e2⟩ := l_letters_1 T (k + 1) i (by omega) hi' (some (.d (nI most))) c' ps' hp.start y
      exact ⟨_, _, _, by rw [ed]; rfl, e2, c2, ps2, _, x2, hp2.next (by omega), rfl, rfl⟩
  obtain ⟨ρ', S', h1', c', ps, x, y, hp, rfl, rfl⟩ := hloop
  refine ⟨⟨k + 1, ps⟩, c', ⟨Nat.le_add_left 1 k, by show k + 1 ≤ 8; omega, fun p hm => ⟨(hp.ok p hm).1, (hp.ok p hm).2.1⟩, hp.srt, by have := hp.len; show ps.length ≤ 64; omega⟩, by show k + 1 ≤ most; omega, ?_⟩
  have h1' : l__law_letters_2 [some (.r 0), some (.d (nI most)), some (.d (nI (k + 1))), some (.d (.list [])), none, none] (cupC c1 :: T) = _ := h1'
  have tp : dTuple [encPs false ps] = some (encPs true ps) := rfl
  simp [b__law_letters, mSeq, mSet, mBin, mC, mFn, mCons, mNil, mVar, getV, env0, hr, rd, ad, mFr, mDisp, datas, show few 0 = true from rfl, h1', mRet, mTup, mCall, rds, tp, show few 2 = true from rfl, outW]
  rfl
end PL
set_option linter.all false
set_option maxRecDepth 100000
/-! P33: the counted numbers are those of the normal words. -/
namespace PL
open PySem Ev LW Tr
theorem setsR_eq (g : Gr) (h : OkG g) : ∀ (w : List Nat) (fs : List (List Nat)), setsR g w fs = setsP (fr g h).free w fs
  | [], _ => rfl
  | a :: w, fs => setsR_eq g h w (setS g a fs)
theorem offC_sum (s fd : List Int) (k : Nat) : ∀ m : Nat, offC s fd k m = (if k = 0 then 1 else 0) - ((List.range m).map fun j => s.getD (j + 1) 0 * fd.getD (k - (j + 1)) 0).sum
  | 0 => by simp [offC]
  | m + 1 => by
    rw [offC, offC_sum s fd k m, List.range_succ, List.map_append, List.sum_append]
    simp only [List.map_cons, List.map_nil, List.sum_cons, List.sum_nil]
    omega
theorem sum_cut (f : Nat → Int) (k : Nat) (h : ∀ j, k ≤ j → f j = 0) : ∀ D : Nat, ((List.range D).map f).sum = ((List.range (min k D)).map f).sum
  | 0 => by simp
  | D + 1 => by
    rw [List.range_succ, List.map_append, List.sum_append, sum_cut f k h D]
    by_cases q : k ≤ D
    · rw [show min k D = k by omega, show min k (D + 1) = k by omega]
      simp [h D q]
    · rw [show min k D = D by omega, show min k (D + 1) = D + 1 by omega, List.range_succ, List.map_append, List.sum_append]
theorem count_len0 : ∀ l : List (List Nat), (l.map List.length).count 0 = l.count []
  | [] => rfl
  | u :: l => by
    rw [List.map_cons, List.count_cons, List.count_cons, count_len0 l]
    congr 1
    cases u <;> simp
theorem getD_map_range (f : Nat → Int) {n j : Nat} (h : j < n) : ((List.range n).map f).getD j 0 = f j := by
  rw [List.getD_eq_getElem?_getD, List.getElem?_map, List.getElem?_range h]
  rfl
theorem nN_zero (F : Fr) (n : Nat) : nN F n 0 = 1 := rfl
section
variable (g : Gr) (h : OkG g)
theorem szs_perm : (szs g (List.range g.n)).Perm ((setsP (fr g h).free (List.range g.n) [[]]).map List.length) := by
  unfold szs setsOf
  rw [setsR_eq g h]
  exact (isort_perm wlt _).map _
def mxz (g : Gr) : Nat := match szs g (List.range g.n) with | [] => 0 | x :: xs => mxN x xs
theorem mxN_ge : ∀ (xs : List Nat) (x : Nat), x ≤ mxN x xs ∧ ∀ y ∈ xs, y ≤ mxN x xs
  | [], x => ⟨Nat.le_refl _, by simp⟩
  | y :: xs, x => by
    show x ≤ mxN (if x < y then y else x) xs ∧ ∀ z ∈ y :: xs, z ≤ mxN (if x < y then y else x) xs
    obtain ⟨h1, h2⟩ := mxN_ge xs (if x < y then y else x)
    refine ⟨?_, fun z hz => ?_⟩
    · split at h1 <;> rename_i q <;> simp only [q, if_true, if_false] at h1 ⊢ <;> omega
    · rcases List.mem_cons.mp hz with rfl | hz
      · split at h1 <;> rename_i q <;> simp only [q, if_true, if_false] at h1 ⊢ <;> omega
      · exact h2 z hz
theorem mxz_ge : ∀ x ∈ szs g (List.range g.n), x ≤ mxz g := fun x hx => by
  unfold mxz
  cases q : szs g (List.range g.n) with
  | nil => rw [q] at hx; cases hx
  | cons y ys =>
    rw [q] at hx
    obtain ⟨h1, h2⟩ := mxN_ge ys y
    rcases List.mem_cons.mp hx with rfl | hx
    · exact h1
    · exact h2 x hx
theorem sgA_eq : sgA g = (List.range (mxz g + 1)).map fun k => ((szs g (List.range g.n)).count k : Int) * sg k := rfl
include h in
theorem count0 : (szs g (List.range g.n)).count 0 = 1 := by
  rw [(szs_perm g h).count_eq, count_len0]
  have ha : Asc (List.range g.n) := List.pairwise_lt_range
  have h1 := List.nodup_iff_count.mp (setsP_nodup (p := (fr g h).free) (List.range g.n) ha) []
  have h2 : ([] : List Nat) ∈ setsP (fr g h).free (List.range g.n) [[]] := (setsP_mem _ ha []).mpr ⟨List.Pairwise.nil, by simp, List.Pairwise.nil⟩
  have h3 := List.count_pos_iff.mpr h2
  omega
theorem cnt_step (k : Nat) (hk : 0 < k) : nN (fr g h) g.n k = - ((List.range (min k (mxz g))).map fun j => (((szs g (List.range g.n)).count (j + 1) : Int) * sg (j + 1)) * nN (fr g h) g.n (k - (j + 1))).sum := by
  have cf := cf_sets (F := fr g h) g.n k hk
  have e1 : ((setsP (fr g h).free (List.range g.n) [[]]).map fun u => if u.length ≤ k then sg u.length * nN (fr g h) g.n (k - u.length) else 0) = ((setsP (fr g h).free (List.range g.n) [[]]).map List.length).map fun j => if j ≤ k then sg j * nN (fr g h) g.n (k - j) else 0 := by rw [List.map_map]; rfl
  rw [e1, ← sum_perm ((szs_perm g h).map _), by_sizes _ (mxz g) _ (mxz_ge g), List.range_succ_eq_map, List.map_cons, List.sum_cons, List.map_map, count0 g h] at cf
  have e2 : ((List.range (mxz g)).map ((fun k_1 => ((szs g (List.range g.n)).count k_1 : Int) * if k_1 ≤ k then sg k_1 * nN (fr g h) g.n (k - k_1) else 0) ∘ Nat.succ)).sum = ((List.range (min k (mxz g))).map fun j => (((szs g (List.range g.n)).count (j + 1) : Int) * sg (j + 1)) * nN (fr g h) g.n (k - (j + 1))).sum := by
    rw [sum_cut _ k]
    · refine map_sum_congr fun j hj => ?_
      have hj := List.mem_range.mp hj
      show ((szs g (List.range g.n)).count (j + 1) : Int) * (if j + 1 ≤ k then sg (j + 1) * nN (fr g h) g.n (k - (j + 1)) else 0) = _
      rw [if_pos (by omega), Int.mul_assoc]
    · intro j hj
      show ((szs g (List.range g.n)).count (j + 1) : Int) * (if j + 1 ≤ k then sg (j + 1) * nN (fr g h) g.n (k - (j + 1)) else 0) = 0
      rw [if_neg (by omega), Int.mul_zero]
  rw [e2] at cf
  have e3 : (if (0 : Nat) ≤ k then sg 0 * nN (fr g h) g.n (k - 0) else 0) = nN (fr g h) g.n k := by
    rw [if_pos (Nat.zero_le _), Nat.sub_zero]
    show (1 : Int) * _ = _
    omega
  rw [e3] at cf
  have e4 : ((1 : Nat) : Int) * nN (fr g h) g.n k = nN (fr g h) g.n k := by simp
  rw [e4] at cf
  omega
theorem cnt_eq : ∀ k : Nat, cntC (sgA g) k = (List.range k).map fun j => nN (fr g h) g.n j
  | 0 => rfl
  | k + 1 => by
    rw [cntC, cnt_eq k, List.range_succ, List.map_append]
    congr 1
    simp only [List.map_cons, List.map_nil]
    congr 1
    have hl : (sgA g).length - 1 = mxz g := by rw [sgA_eq, List.length_map, List.length_range]; omega
    rw [offC_sum, hl]
    by_cases q : k = 0
    · subst q
      simp [nN_zero]
    · rw [if_neg q, cnt_step g h k (by omega)]
      have e : ((List.range (min k (mxz g))).map fun j => (sgA g).getD (j + 1) 0 * ((List.range k).map fun j => nN (fr g h) g.n j).getD (k - (j + 1)) 0) = (List.range (min k (mxz g))).map fun j => (((szs g (List.range g.n)).count (j + 1) : Int) * sg (j + 1)) * nN (fr g h) g.n (k - (j + 1)) := by
        refine List.map_congr_left fun j hj => ?_
        have hj := List.mem_range.mp hj
        rw [sgA_eq, getD_map_range _ (by omega), getD_map_range _ (by omega)]
      rw [e]
      omega
theorem cnt_last (m : Nat) : (cntC (sgA g) (m + 1)).getLast? = some ((nfs (fr g h) g.n m).length : Int) := by
  rw [cnt_eq g h, List.range_succ, List.map_append]
  simp [nN]
theorem nfs_len_le (F : Fr) (n : Nat) : ∀ k, (nfs F n k).length ≤ n ^ k := fun k => by
  have : ∀ k, (nline F n k).length ≤ n ^ k := fun k => by
    induction k with
    | zero => simp [nline]
    | succ k ih =>
      have hs : ∀ l : List (List Nat × List Nat), (l.flatMap (nstep F n)).length ≤ l.length * n := fun l => by
        induction l with
        | nil => simp
        | cons p l ih =>
          rw [List.flatMap_cons, List.length_append, List.length_cons, Nat.succ_mul]
          have : (nstep F n p).length ≤ n := by
            unfold nstep
            rw [List.length_map]
            have := List.length_filter_le (fun a => !p.2.contains a) (List.range n)
            rw [List.length_range] at this
            exact this
          omega
      rw [nline, Nat.pow_succ]
      exact Nat.le_trans (hs _) (Nat.mul_le_mul_right _ ih)
  rw [← nline_len]
  exact this k
theorem piles_s (m : Nat) (hm : m ≤ 60) (hb : ∀ k ≤ m, g.n ^ k ≤ 2000) (S : Sto) : f_piles_of_length [.d (encG g), .d (nI m)] S = some (.d (encTs true (nfs (fr g h) g.n m)), S) :=
  piles_of_length_s g h m (fun k hk => Nat.le_trans (nfs_len_le _ _ k) (hb k hk)) hm (cnt_last g h m) S
end
end PL
set_option linter.all false
set_option maxRecDepth 100000
/-! P34: tops are first letters turned round; endings of one letter. -/
namespace PL
open PySem Ev LW Tr
theorem take_split {F : Fr} {a : Nat} : ∀ {w : List Nat}, (take F a w).isSome = true ↔ ∃ x y, w = x ++ a :: y ∧ ∀ b ∈ x, F.free a b = true
  | [] => by simp [take]
  | c :: w => by
    rw [take_cons_isSome, take_split (w := w)]
    constructor
    · rintro (rfl | ⟨h1, x, y, rfl, h2⟩)
      · exact ⟨[], w, rfl, by simp⟩
      · exact ⟨c :: x, y, rfl, fun b hb => by
          rcases List.mem_cons.mp hb with rfl | hb
          · exact h1
          · exact h2 b hb⟩
    · rintro ⟨x, y, e, h⟩
      cases x with
      | nil => injection e with e1 e2; exact .inl e1.symm
      | cons d x =>
        injection e with e1 e2
        subst e1
        exact .inr ⟨h c List.mem_cons_self, x, y, e2, fun b hb => h b (List.mem_cons_of_mem _ hb)⟩
theorem last_split {F : Fr} {a : Nat} {w : List Nat} : (take F a w.reverse).isSome = true ↔ ∃ x y, w = x ++ a :: y ∧ ∀ b ∈ y, F.free a b = true := by
  rw [take_split]
  constructor
  · rintro ⟨x, y, e, h⟩
    refine ⟨y.reverse, x.reverse, ?_, fun b hb => h b (List.mem_reverse.mp hb)⟩
    have := congrArg List.reverse e
    rw [List.reverse_reverse] at this
    rw [this]; simp
  · rintro ⟨x, y, rfl, h⟩
    exact ⟨y.reverse, x.reverse, by simp, fun b hb => h b (List.mem_reverse.mp hb)⟩
section
variable {g : Gr} (h : OkG g)
theorem tops_mem {w : List Nat} {a : Nat} : a ∈ topsW g w ↔ (take (fr g h) a w.reverse).isSome = true := by
  rw [last_split]
  unfold topsW
  rw [List.mem_map]
  constructor
  · rintro ⟨i, hi, rfl⟩
    obtain ⟨h1, h2⟩ := List.mem_filter.mp hi
    have h1 := List.mem_range.mp h1
    refine ⟨w.take i, w.drop (i + 1), ?_, fun b hb => List.all_eq_true.mp h2 b hb⟩
    rw [getD_at h1, ← List.drop_eq_getElem_cons h1, List.take_append_drop]
  · rintro ⟨x, y, rfl, hy⟩
    have e : (x ++ a :: y).getD x.length 0 = a := by
      rw [List.getD_eq_getElem?_getD, List.getElem?_append_right (Nat.le_refl _), Nat.sub_self]
      rfl
    refine ⟨x.length, List.mem_filter.mpr ⟨List.mem_range.mpr (by simp), ?_⟩, e⟩
    unfold isTop
    rw [e, List.all_eq_true]
    intro b hb
    have : (x ++ a :: y).drop (x.length + 1) = y := by
      rw [← List.drop_drop, List.drop_left]; rfl
    rw [this] at hb
    exact hy b hb
include h in
theorem tops_nodup (w : List Nat) : (topsW g w).Nodup := by
  unfold topsW
  have hd : ((List.range w.length).filter (isTop g w)).Pairwise (· < ·) := List.Pairwise.filter _ List.pairwise_lt_range
  unfold List.Nodup
  rw [List.pairwise_map]
  refine List.Pairwise.imp_of_mem (fun {i j} hi hj hij e => ?_) hd
  obtain ⟨i1, i2⟩ := List.mem_filter.mp hi
  obtain ⟨j1, j2⟩ := List.mem_filter.mp hj
  have j1 := List.mem_range.mp j1
  have m : w.getD j 0 ∈ w.drop (i + 1) := by
    rw [getD_at j1]
    have : (w.drop (i + 1))[j - (i + 1)]? = some w[j] := by
      rw [List.getElem?_drop, show i + 1 + (j - (i + 1)) = j by omega, List.getElem?_eq_getElem j1]
    exact List.mem_of_getElem? this
  have := List.all_eq_true.mp i2 _ m
  rw [e, frB_irr h] at this
  cases this
theorem beg_one {n : Nat} {w : List Nat} : begK (fr g h) n w 1 = (firsts (fr g h) n w).map fun a => [a] := by
  refine sorted_ext (begK_sorted n w 1) ?_ fun u => ?_
  · rw [List.pairwise_map]
    refine (firsts_asc (F := fr g h) n w).imp fun {a b} hab => ?_
    rw [wlt, if_neg (by omega)]
    exact decide_eq_true hab
  · unfold begK
    rw [List.mem_filter, List.mem_map, mem_nfs]
    constructor
    · rintro ⟨⟨h1, h2, h3⟩, h4⟩
      obtain ⟨a, rfl⟩ := List.length_eq_one_iff.mp h1
      exact ⟨a, firsts_mem.mpr ⟨h2 a (by simp), (begins_fs (fs_one a)).mp h4 a (by simp)⟩, rfl⟩
    · rintro ⟨a, ha, rfl⟩
      obtain ⟨h1, h2⟩ := firsts_mem.mp ha
      exact ⟨⟨rfl, by simpa using h1, (fs_iff.mp (fs_one a)).1⟩, (begins_fs (fs_one a)).mpr fun x hx => by rw [List.mem_singleton.mp hx]; exact h2⟩
theorem tops_len {w : List Nat} (hw : Pile g h w) : (topsW g w).length = (begK (fr g h) g.n (turned (fr g h) w) 1).length := by
  rw [beg_one h, List.length_map]
  refine ((List.perm_ext_iff_of_nodup (tops_nodup h w) ((firsts_asc _ _).imp fun {a b} hab => Nat.ne_of_lt hab)).mpr fun a => ?_).length_eq
  rw [tops_mem h, firsts_mem]
  unfold turned
  rw [take_isSome_resp (lst_eqv w.reverse)]
  constructor
  · intro ha
    obtain ⟨x, y, rfl, _⟩ := last_split.mp ha
    exact ⟨hw.lt a (by simp), ha⟩
  · exact fun ha => ha.2
theorem filter_len (p : Nat → Bool) : ∀ (k : Nat) (f : Nat → List (List Nat)), (∀ j, ∀ u ∈ f j, u.length = j) → (((List.range k).flatMap f).filter fun u => p u.length) = ((List.range k).filter p).flatMap f
  | 0, f, _ => rfl
  | k + 1, f, hf => by
    rw [List.range_succ, List.flatMap_append, List.filter_append, List.filter_append, List.flatMap_append, filter_len p k f hf]
    congr 1
    simp only [List.flatMap_cons, List.flatMap_nil, List.append_nil]
    cases q : p k with
    | true =>
      rw [List.filter_eq_self.mpr fun u hu => by rw [hf k u hu]; exact q]
      simp [List.filter_cons, q]
    | false =>
      rw [List.filter_eq_nil_iff.mpr fun u hu => by rw [hf k u hu, q]; simp]
      simp [List.filter_cons, q]
theorem begS_one {n : Nat} {w : List Nat} (hw : w ≠ []) : ((begS (fr g h) n w).filter fun u => decide (u.length = 1)) = begK (fr g h) n w 1 := by
  unfold begS
  rw [filter_len (fun k => decide (k = 1)) (w.length + 1) (fun k => begK (fr g h) n w k) fun j u hu => (mem_nfs.mp (List.mem_filter.mp hu).1).1]
  have : ((List.range (w.length + 1)).filter fun k => decide (k = 1)) = [1] := by
    have hl : 1 ≤ w.length := by cases w with | nil => exact absurd rfl hw | cons _ _ => simp
    refine asc_ext (List.Pairwise.filter _ List.pairwise_lt_range) (List.pairwise_singleton _ _) fun x => ?_
    rw [List.mem_filter, List.mem_range]
    simp
    omega
  rw [this]
  simp
theorem ends_one {w : List Nat} (hw : Pile g h w) (hne : w ≠ []) : ((endS (fr g h) g.n w).filter fun u => decide (u.length = 1)).length = (topsW g w).length := by
  rw [tops_len h hw, ← begS_one h (w := turned (fr g h) w) (n := g.n)]
  · unfold endS
    have pm := ((isort_perm plt2 ((begS (fr g h) g.n (turned (fr g h) w)).map fun u => (u.length, turned (fr g h) u))).map (·.2)).filter (fun u => decide (u.length = 1))
    rw [pm.length_eq, List.map_map]
    show (((begS (fr g h) g.n (turned (fr g h) w)).map fun u => turned (fr g h) u).filter fun u => decide (u.length = 1)).length = _
    rw [List.filter_map, List.length_map]
    congr 1
    refine List.filter_congr fun u _ => ?_
    show decide ((turned (fr g h) u).length = 1) = _
    unfold turned
    rw [lst_length, List.length_reverse]
  · intro e
    have := congrArg List.length e
    unfold turned at this
    rw [lst_length, List.length_reverse] at this
    exact hne (List.length_eq_zero_iff.mp this)
end
theorem nfs_ne {g : Gr} (h : OkG g) (k : Nat) : nfs (fr g h) g.n k ≠ [] := by
  intro e
  have hn := h.n1
  have : lst (fr g h) (List.replicate k 0) ∈ nfs (fr g h) g.n k := mem_nfs.mpr ⟨by rw [lst_length, List.length_replicate], lst_mem fun a ha => by rw [(List.mem_replicate.mp ha).2]; omega, Nf.lst _⟩
  rw [e] at this
  cases this
end PL
set_option linter.all false
set_option maxRecDepth 100000
set_option maxHeartbeats 4000000
/-! P35: the first part of the law: counts. -/
namespace PL
open PySem Ev LW Tr
theorem take_cup (c c' : Cup) (T : Sto) : (cupC c' :: T).take (cupC c :: T).length = cupC c' :: T := by simp
theorem rd_d (S : Sto) (d : PyData) : rd S (.d d) = some d := rfl
theorem lk_T (w : List Nat) (hl : w.length ≤ 900000) : lk 2 (encT w) = true := by
  unfold encT lk
  rw [wI_len, Bool.and_eq_true, List.all_eq_true]
  refine ⟨Nat.ble_eq.mpr hl, fun x hx => ?_⟩
  obtain ⟨a, _, rfl⟩ := List.mem_map.mp hx
  rfl
theorem lk_up : ∀ (n : Nat) (x : PyData), lk n x = true → lk (n + 1) x = true
  | 0, x, h => by simp [lk] at h
  | n + 1, x, h => by
    cases x with
    | none => rfl
    | bool b => rfl
    | int i => rfl
    | str s => rfl
    | list xs =>
      unfold lk at h ⊢
      rw [Bool.and_eq_true, List.all_eq_true] at h ⊢
      exact ⟨h.1, fun y hy => lk_up n y (h.2 y hy)⟩
    | tuple xs =>
      unfold lk at h ⊢
      rw [Bool.and_eq_true, List.all_eq_true] at h ⊢
      exact ⟨h.1, fun y hy => lk_up n y (h.2 y hy)⟩
    | dict kvs => simp [lk] at h
theorem lk_Ts (t : Bool) (ws : List (List Nat)) (hl : ws.length ≤ 900000) (hw : ∀ w ∈ ws, w.length ≤ 900000) : lk 3 (encTs t ws) = true := by
  have h1 : (ws.map encT).all (lk 2) = true := by
    rw [List.all_map, List.all_eq_true]
    exact fun w m => lk_T w (hw w m)
  have h2 : Nat.ble (ws.map encT).length 900000 = true := by rw [List.length_map]; exact Nat.ble_eq.mpr hl
  unfold encTs
  cases t <;> (unfold lk; simp only [Bool.false_eq_true, if_false, if_true]; rw [h1, h2]; rfl)
theorem lk_pair (n : Nat) (x y : PyData) (hx : lk n x = true) (hy : lk n y = true) : lk (n + 1) (.list [x, y]) = true := by
  unfold lk
  simp [hx, hy]
theorem mul_list2 (x : PyData) : dMul (.list [x]) (.int 2) = some (.list [x, x]) := rfl
theorem ge_lt (n : Nat) : dLt (nI n) (.int 4) = some (.bool (decide (n < 4))) := dLt_nat n 4
section
variable (g : Gr) (h : OkG g) (hn : g.n ≤ 4)
include hn
theorem pow_few (k : Nat) (hk : k ≤ 4) : g.n ^ k ≤ 2000 := by
  have h1 : g.n ^ k ≤ 4 ^ k := Nat.pow_le_pow_left hn k
  have h2 : 4 ^ k ≤ 4 ^ 4 := Nat.pow_le_pow_right (by decide) hk
  omega
omit hn in
theorem nfs_pile {k : Nat} (hk : k ≤ 60) {w : List Nat} (m : w ∈ nfs (fr g h) g.n k) : Pile g h w := by
  obtain ⟨h1, h2, h3⟩ := mem_nfs.mp m
  exact ⟨by omega, h2, h3⟩
theorem nfs_few (k : Nat) (hk : k ≤ 4) : (nfs (fr g h) g.n k).length ≤ 2000 := Nat.le_trans (nfs_len_le _ _ k) (pow_few g hn k hk)
include h in
theorem counts_right_s (c : Cup) (T : Sto) (hletters : ∃ c', f__law_letters [.r 0, .d (.int 4)] (cupC c :: T) = some (.d (encG g), cupC c' :: T)) : ∃ c', f__law_counts_right [.r 0] (cupC c :: T) = some (.d (.bool true), cupC c' :: T) := by
  obtain ⟨c1, e1⟩ := hletters
  have ixn : dIx (encG g) (.int 0) = some (nI g.n) := rfl
  have hlt := ge_lt g.n
  -- the length
  obtain ⟨k, c2, hk, hr2⟩ := roll_s c1 T (if g.n < 4 then 4 else 3) (by split <;> omega) (by split <;> omega)
  have hL : k + 1 ≤ 4 := by split at hk <;> omega
  have adk : dAdd (.int 1) (nI k) = some (nI (k + 1)) := by
    show some (PyData.int (1 + (k : Int))) = _
    unfold nI
    congr 2
    omega
  have eL : mBin dAdd (mC (.int 1)) (mFn f__law_roll (mCons (mVar 0) (mCons (mIf (mBool (mBin dLt (mBin dIx (mVar 1) (mC (.int 0))) (mC (.int 4)))) (mC (.int 4)) (mC (.int 3))) mNil))) [some (.r 0), some (.d (encG g)), none, none, none, none, none, none, none, none, none, none] (cupC c1 :: T) = some (.d (nI (k + 1)), cupC c2 :: T) := by
    by_cases q : g.n < 4
    · rw [if_pos q] at hr2
      have hr2 : f__law_roll [.r 0, .d (.int 4)] (cupC c1 :: T) = some (.d (nI k), cupC c2 :: T) := hr2
      rw [decide_eq_true q] at hlt
      simp [mBin, mC, mFn, mCons, mNil, mVar, getV, mIf, mBool, rd, ixn, hlt, hr2, adk]
    · rw [if_neg q] at hr2
      have hr2 : f__law_roll [.r 0, .d (.int 3)] (cupC c1 :: T) = some (.d (nI k), cupC c2 :: T) := hr2
      rw [decide_eq_false q] at hlt
      simp [mBin, mC, mFn, mCons, mNil, mVar, getV, mIf, mBool, rd, ixn, hlt, hr2, adk]
  generalize hLk : k + 1 = L at *
  have L1 : 1 ≤ L := by omega
  have ps := fun S => piles_s g h L (by omega) (fun j hj => pow_few g hn j (by omega)) S
  have pcs := fun S => pile_counts_s g h L (by omega) S
  -- one
  obtain ⟨K, c3, hK, hr3⟩ := roll_s c2 T (L + 1) (by omega) (by omega)
  have adL : dAdd (nI L) (.int 1) = some (nI (L + 1)) := add_nat L 1
  have psK := fun S => piles_s g h K (by omega) (fun j hj => pow_few g hn j (by omega)) S
  obtain ⟨one, c4, hone, hr4⟩ := some_s encT c3 T (nfs (fr g h) g.n K) (nfs_ne h K) (by have := nfs_few g h hn K (by omega); omega)
  obtain ⟨o1, o2, o3⟩ := mem_nfs.mp hone
  have po : Pile g h one := nfs_pile g h (by omega) hone
  have fL := nfs_few g h hn L hL
  have fD := nfs_few g h hn (L - K) (by omega)
  generalize hP : nfs (fr g h) g.n L = P at *
  have hPp : ∀ w ∈ P, Pile g h w := fun w m => nfs_pile g h (k := L) (by omega) (by rw [hP]; exact m)
  have hPl : ∀ w ∈ P, w.length = L := fun w m => (mem_nfs.mp (by rw [hP]; exact m : w ∈ nfs (fr g h) g.n L)).1
  have sqP : seqOf (encTs true (nfs (fr g h) g.n K)) = some ((nfs (fr g h) g.n K).map encT) := rfl
  have sqD : seqOf (encTs true (nfs (fr g h) g.n (L - K))) = some ((nfs (fr g h) g.n (L - K)).map encT) := rfl
  let some' := P.filter fun w => (behind (fr g h) one w).isSome
  let far' := P.filter fun w => (ahead (fr g h) one w).isSome
  have pb := perm_behind (F := fr g h) (n := g.n) (k := L) (m := L - K) (u := one) (by omega) o2
  have pa := perm_ahead (F := fr g h) (n := g.n) (k := L) (m := L - K) (u := one) (by omega) o2
  rw [hP] at pb pa
  have ls : some'.length = (nfs (fr g h) g.n (L - K)).length := by have := pb.length_eq; rwa [List.length_map] at this
  have lf : far'.length = (nfs (fr g h) g.n (L - K)).length := by have := pa.length_eq; rwa [List.length_map] at this
  have C1 : ∀ x6 x7 x9 x10 x11, c__law_counts_right_1 [some (.r 0), some (.d (encG g)), some (.d (nI L)), some (.d (encTs true P)), some (.d (encI (cntC (sgA g) (L + 1)))), some (.d (encT one)), x6, x7, none, x9, x10, x11] (cupC c4 :: T) = some (some'.map encT, cupC c4 :: T) := fun x6 x7 x9 x10 x11 => by
    unfold c__law_counts_right_1
    exact mLc_on encT P (src := srcL (P.map encT)) (n := P.length + 1) (by rw [it_t (ds := P.map encT) rfl, List.length_map]) (fun _ _ => rfl) rfl (by omega) (fun w => [some (.r 0), some (.d (encG g)), some (.d (nI L)), some (.d (encTs true P)), some (.d (encI (cntC (sgA g) (L + 1)))), some (.d (encT one)), x6, x7, some (.d (encT w)), x9, x10, x11]) (fun w => (behind (fr g h) one w).isSome) encT (fun _ _ => rfl) (fun w hw => by
      have := is_beginning_s g h one w po (hPp w hw) (cupC c4 :: T)
      simp [mBool, mFn, mCons, mNil, mVar, getV, this]) (fun _ _ _ => rfl)
  have C2 : ∀ x6 x7 x9 x10 x11, c__law_counts_right_2 [some (.r 0), some (.d (encG g)), some (.d (nI L)), some (.d (encTs true P)), some (.d (encI (cntC (sgA g) (L + 1)))), some (.d (encT one)), x6, x7, none, x9, x10, x11] (cupC c4 :: T) = some (far'.map encT, cupC c4 :: T) := fun x6 x7 x9 x10 x11 => by
    unfold c__law_counts_right_2
    exact mLc_on encT P (src := srcL (P.map encT)) (n := P.length + 1) (by rw [it_t (ds := P.map encT) rfl, List.length_map]) (fun _ _ => rfl) rfl (by omega) (fun w => [some (.r 0), some (.d (encG g)), some (.d (nI L)), some (.d (encTs true P)), some (.d (encI (cntC (sgA g) (L + 1)))), some (.d (encT one)), x6, x7, some (.d (encT w)), x9, x10, x11]) (fun w => (ahead (fr g h) one w).isSome) encT (fun _ _ => rfl) (fun w hw => by
      have := is_ending_s g h one w po (hPp w hw) (cupC c4 :: T)
      simp [mBool, mFn, mCons, mNil, mVar, getV, this]) (fun _ _ _ => rfl)
  have C3 : ∀ x9 x10 x11, c__law_counts_right_3 [some (.r 0), some (.d (encG g)), some (.d (nI L)), some (.d (encTs true P)), some (.d (encI (cntC (sgA g) (L + 1)))), some (.d (encT one)), some (.d (encTs false some')), some (.d (encTs false far')), none, x9, x10, x11] (cupC c4 :: T) = some ((some'.map fun w => (behind (fr g h) one w).getD []).map encT, cupC c4 :: T) := fun x9 x10 x11 => by
    unfold c__law_counts_right_3
    rw [mLc_onm encT some' (src := srcL (some'.map encT)) (n := some'.length + 1) (by rw [it_l (ds := some'.map encT) rfl, List.length_map]) (fun _ _ => rfl) rfl (by omega) (fun w => [some (.r 0), some (.d (encG g)), some (.d (nI L)), some (.d (encTs true P)), some (.d (encI (cntC (sgA g) (L + 1)))), some (.d (encT one)), some (.d (encTs false some')), some (.d (encTs false far')), some (.d (encT w)), x9, x10, x11]) (fun w => encT ((behind (fr g h) one w).getD [])) (fun _ _ => rfl) (fun w hw => by
      obtain ⟨hw1, hw2⟩ := List.mem_filter.mp hw
      obtain ⟨r, hr⟩ := Option.isSome_iff_exists.mp hw2
      have := left_behind_s g h one w po (hPp w hw1) (cupC c4 :: T) hr
      rw [hr]
      simp [mFn, mCons, mNil, mVar, getV, this]), List.map_map]
    rfl
  have C4 : ∀ x9 x10 x11, c__law_counts_right_4 [some (.r 0), some (.d (encG g)), some (.d (nI L)), some (.d (encTs true P)), some (.d (encI (cntC (sgA g) (L + 1)))), some (.d (encT one)), some (.d (encTs false some')), some (.d (encTs false far')), none, x9, x10, x11] (cupC c4 :: T) = some ((far'.map fun w => (ahead (fr g h) one w).getD []).map encT, cupC c4 :: T) := fun x9 x10 x11 => by
    unfold c__law_counts_right_4
    rw [mLc_onm encT far' (src := srcL (far'.map encT)) (n := far'.length + 1) (by rw [it_l (ds := far'.map encT) rfl, List.length_map]) (fun _ _ => rfl) rfl (by omega) (fun w => [some (.r 0), some (.d (encG g)), some (.d (nI L)), some (.d (encTs true P)), some (.d (encI (cntC (sgA g) (L + 1)))), some (.d (encT one)), some (.d (encTs false some')), some (.d (encTs false far')), some (.d (encT w)), x9, x10, x11]) (fun w => encT ((ahead (fr g h) one w).getD [])) (fun _ _ => rfl) (fun w hw => by
      obtain ⟨hw1, hw2⟩ := List.mem_filter.mp hw
      obtain ⟨r, hr⟩ := Option.isSome_iff_exists.mp hw2
      have := left_ahead_s g h one w po (hPp w hw1) (cupC c4 :: T) hr
      rw [hr]
      simp [mFn, mCons, mNil, mVar, getV, this]), List.map_map]
    rfl
  -- the first comparison
  have lnS : dLen [encTs false some'] = some (nI (nfs (fr g h) g.n (L - K)).length) := by
    show some (PyData.int ((some'.map encT).length : Nat)) = _
    rw [List.length_map, ls]; rfl
  have lnF : dLen [encTs false far'] = some (nI (nfs (fr g h) g.n (L - K)).length) := by
    show some (PyData.int ((far'.map encT).length : Nat)) = _
    rw [List.length_map, lf]; rfl
  have lnO : dLen [encT one] = some (nI K) := by
    have := len_sq true one
    rw [o1] at this
    exact this
  have sbO : dSub (nI L) (nI K) = some (nI (L - K)) := by
    show some (PyData.int ((L : Int) - (K : Int))) = _
    unfold nI
    congr 2
    omega
  have ixC : dIx (encI (cntC (sgA g) (L + 1))) (nI (L - K)) = some (nI (nfs (fr g h) g.n (L - K)).length) := by
    have := ix_I (cntC (sgA g) (L + 1)) (L - K) (by rw [cntC_len]; omega) true
    rw [cnt_eq g h, getD_map_range _ (by omega)] at this
    rw [cnt_eq g h]
    exact this
  have lk1 := law_like_s (.list [nI (nfs (fr g h) g.n (L - K)).length, nI (nfs (fr g h) g.n (L - K)).length]) rfl (cupC c4 :: T)
  -- the second
  have so1 : dSorted (.list ((some'.map fun w => (behind (fr g h) one w).getD []).map encT)) = some ((nfs (fr g h) g.n (L - K)).map encT) := by
    rw [sorted_ws, isort_uniq pb (nfs_sorted g.n (L - K))]
  have so2 : dSorted (.list ((far'.map fun w => (ahead (fr g h) one w).getD []).map encT)) = some ((nfs (fr g h) g.n (L - K)).map encT) := by
    rw [sorted_ws, isort_uniq pa (nfs_sorted g.n (L - K))]
  have psD := fun S => piles_s g h (L - K) (by omega) (fun j hj => pow_few g hn j (by omega)) S
  have lk2 : lk 6 (.list [.list ((nfs (fr g h) g.n (L - K)).map encT), .list ((nfs (fr g h) g.n (L - K)).map encT)]) = true := by
    have : lk 3 (.list ((nfs (fr g h) g.n (L - K)).map encT)) = true := lk_Ts false _ (by omega) fun w m => by have := (mem_nfs.mp m).1; omega
    exact lk_up _ _ (lk_up _ _ (lk_pair _ _ _ this this))
  have lk2 := law_like_s _ lk2 (cupC c4 :: T)
  -- the loop
  have hloop : ∀ x9 x10 x11, ∃ ρ' S', l__law_counts_right_1 [some (.r 0), some (.d (encG g)), some (.d (nI L)), some (.d (encTs true P)), some (.d (encI (cntC (sgA g) (L + 1)))), some (.d (encT one)), some (.d (encTs false some')), some (.d (encTs false far')), none, x9, x10, x11] (cupC c4 :: T) = some (.nx, ρ', S') ∧ S' = cupC c4 :: T := fun x9 x10 x11 => by
    unfold l__law_counts_right_1
    have := mFor_inv (mi := mIt (mVar 3)) (f := gN 8) (b := l__law_counts_right_1b) (ρ := [some (.r 0), some (.d (encG g)), some (.d (nI L)), some (.d (encTs true P)), some (.d (encI (cntC (sgA g) (L + 1)))), some (.d (encT one)), some (.d (encTs false some')), some (.d (encTs false far')), none, x9, x10, x11]) (S := cupC c4 :: T) (P.map encT) (src := srcL (P.map encT)) (n := (P.map encT).length + 1) (it_t rfl) (fun _ _ => rfl) rfl
      (fun i ρ S' => ∃ x8 x10 x11, ρ = [some (.r 0), some (.d (encG g)), some (.d (nI L)), some (.d (encTs true P)), some (.d (encI (cntC (sgA g) (L + 1)))), some (.d (encT one)), some (.d (encTs false some')), some (.d (encTs false far')), x8, x9, x10, x11] ∧ S' = cupC c4 :: T) ⟨none, x10, x11, rfl, rfl⟩ ?_
    · obtain ⟨ρ', S', h1, _, _, _, _, h2⟩ := this
      exact ⟨ρ', S', h1, h2⟩
    · rintro i hi ρ S' ⟨x8, x10, x11, rfl, rfl⟩
      have hi' : i < P.length := by simpa using hi
      have ed : (P.map encT)[i] = encT P[i] := by simp
      have hm := List.getElem_mem hi'
      have pw := hPp _ hm
      have pl := hPl _ hm
      have tl : (turned (fr g h) P[i]).length = L := by unfold turned; rw [lst_length, List.length_reverse, pl]
      have ee := endings_of_s g h P[i] pw (many_short _ _ (by omega)) (cupC c4 :: T)
      have lE : (endS (fr g h) g.n P[i]).length ≤ 400000 := by
        unfold endS
        rw [List.length_map, isort_len, List.length_map]
        exact begS_few g h _ (turned_pile pw).nf (turned_pile pw).lt (by omega) (many_short _ _ (by omega))
      have C5 : c__law_counts_right_5 [some (.r 0), some (.d (encG g)), some (.d (nI L)), some (.d (encTs true P)), some (.d (encI (cntC (sgA g) (L + 1)))), some (.d (encT one)), some (.d (encTs false some')), some (.d (encTs false far')), some (.d (encT P[i])), x9, x10, x11] (cupC c4 :: T) = some (((endS (fr g h) g.n P[i]).filter fun u => decide (u.length = 1)).map encT, cupC c4 :: T) := by
        unfold c__law_counts_right_5
        exact mLc_on encT (endS (fr g h) g.n P[i]) (src := srcL ((endS (fr g h) g.n P[i]).map encT)) (n := (endS (fr g h) g.n P[i]).length + 1) (by rw [it_t (ds := (endS (fr g h) g.n P[i]).map encT) (by simp [mFn, mCons, mNil, mVar, getV, ee, encTs]), List.length_map]) (fun _ _ => rfl) rfl (by omega) (fun w => [some (.r 0), some (.d (encG g)), some (.d (nI L)), some (.d (encTs true P)), some (.d (encI (cntC (sgA g) (L + 1)))), some (.d (encT one)), some (.d (encTs false some')), some (.d (encTs false far')), some (.d (encT P[i])), x9, x10, some (.d (encT w))]) (fun w => decide (w.length = 1)) encT (fun _ _ => rfl) (fun w hw => by
          have l1 : dLen [encT w] = some (.int (w.length : Nat)) := len_sq true w
          have l2 : dEq (.int (w.length : Nat)) (.int 1) = some (.bool (decide (w.length = 1))) := dEq_nat _ 1
          simp [mBool, mBin, mCall, mCons, mNil, mVar, getV, mC, rds, rd, l1, l2]) (fun _ _ _ => rfl)
      have lnE : dLen [.list (((endS (fr g h) g.n P[i]).filter fun u => decide (u.length = 1)).map encT)] = some (nI (topsW g P[i]).length) := by
        show some (PyData.int ((((endS (fr g h) g.n P[i]).filter fun u => decide (u.length = 1)).map encT).length : Nat)) = _
        rw [List.length_map, ends_one h pw (by intro z; rw [z] at pl; simp at pl; omega)]
        rfl
      have eqE : dEq (nI (topsW g P[i]).length) (.int 1) = some (.bool (decide ((topsW g P[i]).length = 1))) := dEq_nat _ 1
      have ip := is_pointed_s g h P[i] pw (cupC c4 :: T)
      have neE : ∀ b : Bool, dNe (.bool b) (.bool b) = some (.bool false) := fun b => by cases b <;> rfl
      refine ⟨[some (.r 0), some (.d (encG g)), some (.d (nI L)), some (.d (encTs true P)), some (.d (encI (cntC (sgA g) (L + 1)))), some (.d (encT one)), some (.d (encTs false some')), some (.d (encTs false far')), some (.d (encT P[i])), x9, x10, x11], [some (.r 0), some (.d (encG g)), some (.d (nI L)), some (.d (encTs true P)), some (.d (encI (cntC (sgA g) (L + 1)))), some (.d (encT one)), some (.d (encTs false some')), some (.d (encTs false far')), some (.d (encT P[i])), x9, some (.d (.list (((endS (fr g h) g.n P[i]).filter fun u => decide (u.length = 1)).map encT))), x11], cupC c4 :: T, by rw [ed]; rfl, ?_, some (.d (encT P[i])), _, x11, rfl, rfl⟩
      unfold l__law_counts_right_1b
      simp only [mSeq, mSet, mFr, C5, Option.map_some, Option.bind_some, List.set_cons_succ, List.set_cons_zero, mIfS, mBool, mBin, mCall, mCons, mNil, mVar, getV, List.getElem?_cons_succ, List.getElem?_cons_zero, Option.join_some, rds, rd, lnE, mC, eqE, mFn, ip, neE, Bool.false_eq_true, if_false, mNext]
  obtain ⟨ρ', S', hl1, rfl⟩ := hloop (some (.d (.list ((nfs (fr g h) g.n (L - K)).map encT)))) none none
  refine ⟨c4, ?_⟩
  unfold f__law_counts_right
  rw [fnM_at rfl]
  have e0 : (env0 12 [Wv.r 0]) = [some (.r 0), none, none, none, none, none, none, none, none, none, none, none] := rfl
  have s1 : mSet 1 (mFn f__law_letters (mCons (mVar 0) (mCons (mC (.int 4)) mNil))) [some (.r 0), none, none, none, none, none, none, none, none, none, none, none] (cupC c :: T) = some (.nx, [some (.r 0), some (.d (encG g)), none, none, none, none, none, none, none, none, none, none], cupC c1 :: T) := by
    simp [mSet, mFn, mCons, mNil, mVar, getV, mC, e1]
  have s2 : mSet 2 (mBin dAdd (mC (.int 1)) (mFn f__law_roll (mCons (mVar 0) (mCons (mIf (mBool (mBin dLt (mBin dIx (mVar 1) (mC (.int 0))) (mC (.int 4)))) (mC (.int 4)) (mC (.int 3))) mNil)))) [some (.r 0), some (.d (encG g)), none, none, none, none, none, none, none, none, none, none] (cupC c1 :: T) = some (.nx, [some (.r 0), some (.d (encG g)), some (.d (nI L)), none, none, none, none, none, none, none, none, none], cupC c2 :: T) := by
    unfold mSet
    rw [eL]
    rfl
  have s3 : mPar 3 4 (mCons (mFn f_piles_of_length (mCons (mVar 1) (mCons (mVar 2) mNil))) (mCons (mFn f_pile_counts (mCons (mVar 1) (mCons (mVar 2) mNil))) mNil)) [some (.r 0), some (.d (encG g)), some (.d (nI L)), none, none, none, none, none, none, none, none, none] (cupC c2 :: T) = some (.nx, [some (.r 0), some (.d (encG g)), some (.d (nI L)), some (.d (encTs true P)), some (.d (encI (cntC (sgA g) (L + 1)))), none, none, none, none, none, none, none], cupC c2 :: T) := by
    simp [mPar, mFn, mCons, mNil, mVar, getV, ps, pcs]
  have s4 : mSet 5 (mFn f__law_some (mCons (mVar 0) (mCons (mFr (mL1 seqOf (mFn f_piles_of_length (mCons (mVar 1) (mCons (mFn f__law_roll (mCons (mVar 0) (mCons (mBin dAdd (mVar 2) (mC (.int 1))) mNil))) mNil))))) mNil))) [some (.r 0), some (.d (encG g)), some (.d (nI L)), some (.d (encTs true P)), some (.d (encI (cntC (sgA g) (L + 1)))), none, none, none, none, none, none, none] (cupC c2 :: T) = some (.nx, [some (.r 0), some (.d (encG g)), some (.d (nI L)), some (.d (encTs true P)), some (.d (encI (cntC (sgA g) (L + 1)))), some (.d (encT one)), none, none, none, none, none, none], cupC c4 :: T) := by
    simp [mSet, mFn, mCons, mNil, mVar, getV, mFr, mL1, mBin, mC, rd_d, adL, hr3, psK, sqP, hr4]
  have s5 : mPar 6 7 (mCons (mFr c__law_counts_right_1) (mCons (mFr c__law_counts_right_2) mNil)) [some (.r 0), some (.d (encG g)), some (.d (nI L)), some (.d (encTs true P)), some (.d (encI (cntC (sgA g) (L + 1)))), some (.d (encT one)), none, none, none, none, none, none] (cupC c4 :: T) = some (.nx, [some (.r 0), some (.d (encG g)), some (.d (nI L)), some (.d (encTs true P)), some (.d (encI (cntC (sgA g) (L + 1)))), some (.d (encT one)), some (.d (encTs false some')), some (.d (encTs false far')), none, none, none, none], cupC c4 :: T) := by
    simp only [mPar, mCons, mNil, mFr, C1, C2, Option.map_some, Option.bind_some]
    rfl
  have s6 : mIfS (mNot (mBool (mFn f__law_like (mCons (mFr (mDisp (mCons (mCall dLen (mCons (mVar 6) mNil)) (mCons (mCall dLen (mCons (mVar 7) mNil)) mNil)))) (mCons (mBin dMul (mFr (mDisp (mCons (mBin dIx (mVar 4) (mBin dSub (mVar 2) (mCall dLen (mCons (mVar 5) mNil)))) mNil))) (mC (.int 2))) mNil))))) (mRet (mC (.bool false))) mNext [some (.r 0), some (.d (encG g)), some (.d (nI L)), some (.d (encTs true P)), some (.d (encI (cntC (sgA g) (L + 1)))), some (.d (encT one)), some (.d (encTs false some')), some (.d (encTs false far')), none, none, none, none] (cupC c4 :: T) = some (.nx, [some (.r 0), some (.d (encG g)), some (.d (nI L)), some (.d (encTs true P)), some (.d (encI (cntC (sgA g) (L + 1)))), some (.d (encT one)), some (.d (encTs false some')), some (.d (encTs false far')), none, none, none, none], cupC c4 :: T) := by
    simp [mIfS, mNot, mBool, mFn, mCons, mNil, mFr, mDisp, mCall, mVar, getV, rds, rd_d, lnS, lnF, datas, show few 2 = true from rfl, show few 1 = true from rfl, mBin, lnO, sbO, ixC, mC, mul_list2, lk1, mNext]
  have s7 : mSet 9 (mFr (mL1 dSorted (mFr c__law_counts_right_3))) [some (.r 0), some (.d (encG g)), some (.d (nI L)), some (.d (encTs true P)), some (.d (encI (cntC (sgA g) (L + 1)))), some (.d (encT one)), some (.d (encTs false some')), some (.d (encTs false far')), none, none, none, none] (cupC c4 :: T) = some (.nx, [some (.r 0), some (.d (encG g)), some (.d (nI L)), some (.d (encTs true P)), some (.d (encI (cntC (sgA g) (L + 1)))), some (.d (encT one)), some (.d (encTs false some')), some (.d (encTs false far')), none, some (.d (.list ((nfs (fr g h) g.n (L - K)).map encT))), none, none], cupC c4 :: T) := by
    simp only [mSet, mFr, mL1, C3, Option.map_some, Option.bind_some, rd_d, so1]
    rfl
  have s8 : mIfS (mNot (mBool (mFn f__law_like (mCons (mFr (mDisp (mCons (mVar 9) (mCons (mFr (mL1 dSorted (mFr c__law_counts_right_4))) mNil)))) (mCons (mBin dMul (mFr (mDisp (mCons (mFr (mL1 seqOf (mFn f_piles_of_length (mCons (mVar 1) (mCons (mBin dSub (mVar 2) (mCall dLen (mCons (mVar 5) mNil))) mNil))))) mNil))) (mC (.int 2))) mNil))))) (mRet (mC (.bool false))) mNext [some (.r 0), some (.d (encG g)), some (.d (nI L)), some (.d (encTs true P)), some (.d (encI (cntC (sgA g) (L + 1)))), some (.d (encT one)), some (.d (encTs false some')), some (.d (encTs false far')), none, some (.d (.list ((nfs (fr g h) g.n (L - K)).map encT))), none, none] (cupC c4 :: T) = some (.nx, [some (.r 0), some (.d (encG g)), some (.d (nI L)), some (.d (encTs true P)), some (.d (encI (cntC (sgA g) (L + 1)))), some (.d (encT one)), some (.d (encTs false some')), some (.d (encTs false far')), none, some (.d (.list ((nfs (fr g h) g.n (L - K)).map encT))), none, none], cupC c4 :: T) := by
    have C4' := C4 (some (.d (.list ((nfs (fr g h) g.n (L - K)).map encT)))) none none
    simp only [mIfS, mNot, mBool, mFn, mCons, mNil, mFr, mDisp, mVar, getV, List.getElem?_cons_succ, List.getElem?_cons_zero, Option.join_some, Option.map_some, Option.bind_some, mL1, C4', rd_d, so2, datas, List.length_cons, List.length_nil, show few 2 = true from rfl, show few 1 = true from rfl, show few (0 + 1 + 1) = true from rfl, show few (0 + 1) = true from rfl, if_true, mBin, mCall, rds, lnO, sbO, psD, sqD, mC, mul_list2, lk2, Bool.not_true, Bool.false_eq_true, if_false, mNext]
  unfold b__law_counts_right
  rw [e0]
  simp only [mSeq, s1, s2, s3, s4, s5, s6, s7, s8, hl1, Option.bind_some, mRet, mC, Option.map_some, outW, take_cup]
end
end PL
set_option linter.all false
set_option maxRecDepth 100000
set_option maxHeartbeats 2000000
/-! P36: free sets told; sets that begin a pile. -/
namespace PL
open PySem Ev LW Tr
/-! ### sorted letters -/
def nlt (a b : Nat) : Bool := decide (a < b)
theorem nlt_swo : SrtO.Swo nlt := ⟨fun x y h => by unfold nlt at *; have := of_decide_eq_true h; exact decide_eq_false (by omega), fun x y z h1 h2 => by
  unfold nlt at *
  have h1 := of_decide_eq_false h1
  have h2 := of_decide_eq_false h2
  exact decide_eq_false (by omega)⟩
theorem cmp_nI (a b : Nat) : cmpD (nI a) (nI b) = nlt a b := by unfold nI nlt; rw [cmpD, ilt_nat]
theorem homog_wI' (w : List Nat) : homog (wI w) = true := by
  cases w with
  | nil => rfl
  | cons a w => exact homog_wI a w
theorem sorted_sq (t : Bool) (w : List Nat) : dSorted (sq t w) = some (wI (isort nlt w)) := by
  have e : seqOf (sq t w) = some (wI w) := by cases t <;> rfl
  unfold dSorted
  rw [e]
  show sortD (wI w) = _
  unfold sortD
  rw [if_pos (homog_wI' w), wI_eq, isort_map nI cmp_nI]
  rfl
theorem isort_nlt {w v : List Nat} (hp : w.Perm v) (hv : Asc v) : isort nlt w = v := by
  have nd : w.Nodup := hp.nodup_iff.mpr (hv.imp fun {a b} h => Nat.ne_of_lt h)
  have p2 := isort_perm nlt w
  have s2 : Asc (isort nlt w) := by
    have h1 := isort_srtd nlt_swo w
    have h2 : (isort nlt w).Nodup := p2.nodup_iff.mpr nd
    refine (h1.and h2).imp fun {a b} h => ?_
    have := of_decide_eq_false h.1
    have := h.2
    omega
  exact asc_ext s2 hv fun x => (p2.trans hp).mem_iff
theorem isort_strict {l : List (List Nat)} (h : l.Nodup) : (isort wlt l).Pairwise fun u v => wlt u v = true := by
  have h1 := isort_srtd wlt_swo l
  have h2 : (isort wlt l).Nodup := (isort_perm wlt l).nodup_iff.mpr h
  refine (h1.and h2).imp fun {a b} h => ?_
  rcases wlt_total h.2 with q | q
  · exact q
  · rw [h.1] at q; cases q
theorem isort_same {l m : List (List Nat)} (hp : l.Perm m) (h : m.Nodup) : isort wlt l = isort wlt m := isort_uniq (hp.trans (isort_perm wlt m).symm) (isort_strict h)
/-! ### free sets, told -/
theorem ascB_iff {w : List Nat} : ascB w = true ↔ Asc w := by
  unfold ascB
  rw [List.all_eq_true]
  constructor
  · intro h
    have key : ∀ (d i : Nat), i + d + 1 < w.length → w.getD i 0 < w.getD (i + d + 1) 0 := fun d => by
      induction d with
      | zero => intro i hi; exact of_decide_eq_true (h i (List.mem_range.mpr (by omega)))
      | succ d ih =>
        intro i hi
        have h1 := ih i (by omega)
        have h2 := of_decide_eq_true (h (i + d + 1) (List.mem_range.mpr (by omega)))
        rw [show i + (d + 1) + 1 = i + d + 1 + 1 by omega]
        exact Nat.lt_trans h1 h2
    refine List.pairwise_iff_getElem.mpr fun i j hi hj hij => ?_
    have := key (j - i - 1) i (by omega)
    rw [show i + (j - i - 1) + 1 = j by omega, getD_at hi, getD_at hj] at this
    exact this
  · intro h i hi
    have hi := List.mem_range.mp hi
    have := List.pairwise_iff_getElem.mp h i (i + 1) (by omega) (by omega) (by omega)
    rw [getD_at (by omega), getD_at (by omega)]
    exact decide_eq_true this
theorem asc_few {w : List Nat} {n : Nat} (h : Asc w) (hn : ∀ a ∈ w, a < n) : w.length ≤ n := by
  have := List.Nodup.length_le_of_subset (l₁ := w) (l₂ := List.range n) (h.imp fun {a b} h => Nat.ne_of_lt h) fun a ha => List.mem_range.mpr (hn a ha)
  rwa [List.length_range] at this
theorem isFreeB_iff {g : Gr} (h : OkG g) {w : List Nat} : isFreeB g w = true ↔ (∀ a ∈ w, a < g.n) ∧ FS (fr g h) w := by
  have hpf : ((List.range w.length).all (isFirst g w)) = true ↔ PF (fr g h) w := by
    rw [List.all_eq_true]
    unfold PF
    rw [List.pairwise_iff_getElem]
    constructor
    · intro hh i j hi hj hij
      have := hh j (List.mem_range.mpr hj)
      unfold isFirst at this
      rw [List.all_eq_true] at this
      have hm : w[i] ∈ w.take j := by
        have : (w.take j)[i]? = some w[i] := by rw [List.getElem?_take_of_lt hij, List.getElem?_eq_getElem hi]
        exact List.mem_of_getElem? this
      have := this _ hm
      rw [getD_at hj] at this
      exact this
    · intro hh j hj
      have hj := List.mem_range.mp hj
      unfold isFirst
      rw [List.all_eq_true]
      intro b hb
      obtain ⟨i, hi, e⟩ := List.mem_iff_getElem.mp hb
      rw [List.length_take] at hi
      rw [List.getElem_take] at e
      subst e
      rw [getD_at hj]
      exact hh i j (by omega) hj (by omega)
  unfold isFreeB isSomeB
  rw [Bool.and_eq_true, Bool.and_eq_true, Bool.and_eq_true, hpf, ascB_iff, decide_eq_true_eq, List.all_eq_true]
  constructor
  · rintro ⟨⟨_, h2, h3⟩, h4⟩
    exact ⟨fun a ha => of_decide_eq_true (h2 a ha), h3, h4⟩
  · rintro ⟨h1, h2, h3⟩
    exact ⟨⟨asc_few h2 h1, fun a ha => decide_eq_true (h1 a ha), h2⟩, h3⟩
/-! ### the free sets that begin a pile -/
section
variable {g : Gr} (h : OkG g)
def bsets (g : Gr) (h : OkG g) (w : List Nat) : List (List Nat) := (begS (fr g h) g.n w).filter fun u => isFreeB g (isort nlt u)
theorem free_sorted {u : List Nat} (hu : Nf (fr g h) u) (hn : ∀ a ∈ u, a < g.n) : isFreeB g (isort nlt u) = true ↔ FS (fr g h) u := by
  rw [isFreeB_iff h]
  have pm := isort_perm nlt u
  constructor
  · rintro ⟨_, h1, h2⟩
    have := (pf_perm pm).mp h2
    exact fs_iff.mpr ⟨hu, this⟩
  · intro hf
    rw [isort_nlt (.refl u) hf.1]
    exact ⟨hn, hf⟩
theorem begS_nodup (n : Nat) (w : List Nat) : (begS (fr g h) n w).Nodup := by
  unfold begS List.Nodup
  rw [List.pairwise_flatMap]
  refine ⟨fun k _ => nodup_filter (nfs_nodup n k), ?_⟩
  refine List.Pairwise.imp ?_ (List.nodup_range (n := w.length + 1))
  intro i j hij x hx y hy e
  have h1 := (mem_nfs.mp (List.mem_filter.mp hx).1).1
  have h2 := (mem_nfs.mp (List.mem_filter.mp hy).1).1
  rw [e] at h1
  omega
theorem bsets_mem {w u : List Nat} : u ∈ bsets g h w ↔ (∀ a ∈ u, a < g.n) ∧ FS (fr g h) u ∧ (behind (fr g h) u w).isSome = true := by
  unfold bsets
  rw [List.mem_filter, begS_mem, mem_nfs]
  constructor
  · rintro ⟨⟨⟨_, h2, h3⟩, h4⟩, h5⟩
    exact ⟨h2, (free_sorted h h3 h2).mp h5, h4⟩
  · rintro ⟨h2, h5, h4⟩
    have h3 := asc_nf (F := fr g h) h5.1
    exact ⟨⟨⟨rfl, h2, h3⟩, h4⟩, (free_sorted h h3 h2).mpr h5⟩
theorem bsets_perm (w : List Nat) : (bsets g h w).Perm (setsP (fun _ _ => true) (firsts (fr g h) g.n w) [[]]) := by
  have ha : Asc (List.range g.n) := List.pairwise_lt_range
  refine List.Perm.trans ?_ (sets_begin (F := fr g h) (n := g.n) (w := w))
  refine (List.perm_ext_iff_of_nodup (nodup_filter (begS_nodup h g.n w)) (nodup_filter (setsP_nodup _ ha))).mpr fun u => ?_
  rw [show (u ∈ List.filter (fun u => isFreeB g (isort nlt u)) (begS (fr g h) g.n w)) ↔ _ from bsets_mem h, List.mem_filter, setsP_mem _ ha]
  constructor
  · rintro ⟨h1, h2, h3⟩
    exact ⟨⟨h2.1, fun x hx => List.mem_range.mpr (h1 x hx), h2.2⟩, h3⟩
  · rintro ⟨⟨h1, h2, h3⟩, h4⟩
    exact ⟨fun a ha => List.mem_range.mp (h2 a ha), ⟨h1, h3⟩, h4⟩
theorem bsets_sum {w : List Nat} (hw : w ≠ []) (hn : ∀ a ∈ w, a < g.n) : ((bsets g h w).map fun u => sg u.length).sum = 0 := by
  rw [sum_perm ((bsets_perm h w).map _), alt_sum, if_neg (firsts_ne hw hn)]
theorem bsets_one {w : List Nat} (hw : w ≠ []) : ((bsets g h w).filter fun u => decide (u.length = 1)) = (firsts (fr g h) g.n w).map fun a => [a] := by
  unfold bsets
  rw [List.filter_filter]
  have : ((begS (fr g h) g.n w).filter fun u => decide (u.length = 1) && isFreeB g (isort nlt u)) = (((begS (fr g h) g.n w).filter fun u => decide (u.length = 1)).filter fun u => isFreeB g (isort nlt u)) := by
    rw [List.filter_filter]
    refine List.filter_congr fun u _ => ?_
    rw [Bool.and_comm]
  rw [this, begS_one h hw, beg_one h, List.filter_eq_self.mpr]
  intro u hu
  obtain ⟨a, ha, rfl⟩ := List.mem_map.mp hu
  exact (isFreeB_iff h).mpr ⟨fun x hx => by rw [List.mem_singleton.mp hx]; exact (firsts_mem.mp ha).1, fs_one a⟩
theorem firsts_fs (w : List Nat) : FS (fr g h) (firsts (fr g h) g.n w) := ⟨firsts_asc _ _, (pf_iff_asc (firsts_asc _ _)).mpr fun x hx y hy hne => first_free (firsts_mem.mp hx).2 (firsts_mem.mp hy).2 hne⟩
theorem bsets_sub {w u : List Nat} (hu : u ∈ bsets g h w) : ∀ x ∈ u, x ∈ firsts (fr g h) g.n w := fun x hx => by
  obtain ⟨h1, h2, h3⟩ := (bsets_mem h).mp hu
  exact firsts_mem.mpr ⟨h1 x hx, (begins_fs h2).mp h3 x hx⟩
theorem firsts_in (w : List Nat) : firsts (fr g h) g.n w ∈ bsets g h w := (bsets_mem h).mpr ⟨fun a ha => (firsts_mem.mp ha).1, firsts_fs h w, (begins_fs (firsts_fs h w)).mpr fun x hx => (firsts_mem.mp hx).2⟩
/-- the longest is all of the first letters -/
theorem bsets_best {w u : List Nat} (hu : u ∈ bsets g h w) (hm : ∀ v ∈ bsets g h w, v.length ≤ u.length) : u = firsts (fr g h) g.n w := by
  have hs := bsets_sub h hu
  have hl := hm _ (firsts_in h w)
  have ua := ((bsets_mem h).mp hu).2.1.1
  have nd : u.Nodup := ua.imp fun {a b} h => Nat.ne_of_lt h
  refine asc_ext ua (firsts_asc _ _) fun x => ⟨hs x, fun hx => ?_⟩
  by_cases q : x ∈ u
  · exact q
  · have := List.Nodup.length_le_of_subset (l₁ := x :: u) (l₂ := firsts (fr g h) g.n w) (List.nodup_cons.mpr ⟨q, nd⟩) fun y hy => by
      rcases List.mem_cons.mp hy with rfl | hy
      · exact hx
      · exact hs y hy
    rw [List.length_cons] at this
    omega
end
/-! ### the first of the longest -/
theorem argBest_max (ns : List Nat) : ∀ k, argBest (fun i j => Nat.blt (ns.getD j 0) (ns.getD i 0)) k ≤ k ∧ ∀ j, j ≤ k → ns.getD j 0 ≤ ns.getD (argBest (fun i j => Nat.blt (ns.getD j 0) (ns.getD i 0)) k) 0
  | 0 => ⟨Nat.le_refl _, fun j hj => by rw [Nat.le_zero.mp hj]; exact Nat.le_refl _⟩
  | k + 1 => by
    obtain ⟨h1, h2⟩ := argBest_max ns k
    unfold argBest
    by_cases q : Nat.blt (ns.getD (argBest (fun i j => Nat.blt (ns.getD j 0) (ns.getD i 0)) k) 0) (ns.getD (k + 1) 0) = true
    · rw [if_pos q]
      have q := Nat.blt_eq.mp q
      refine ⟨Nat.le_refl _, fun j hj => ?_⟩
      by_cases e : j = k + 1
      · rw [e]; exact Nat.le_refl _
      · have := h2 j (by omega)
        omega
    · rw [if_neg q]
      have q : ¬ _ := fun z => q (Nat.blt_eq.mpr z)
      refine ⟨by omega, fun j hj => ?_⟩
      by_cases e : j = k + 1
      · rw [e]; omega
      · exact h2 j (by omega)
theorem tupLens_ws : ∀ ws : List (List Nat), tupLens (ws.map encT) = some (ws.map List.length)
  | [] => rfl
  | w :: ws => by
    show (tupLens (ws.map encT)).map ((wI w).length :: ·) = _
    rw [tupLens_ws ws, wI_len]
    rfl
theorem maxLen_s (ws : List (List Nat)) (hne : ws ≠ []) : ∃ u, u ∈ ws ∧ (∀ v ∈ ws, v.length ≤ u.length) ∧ dMaxLen [encTs false ws] = some (encT u) := by
  cases ws with
  | nil => exact absurd rfl hne
  | cons w ws =>
    have hb := argBest_max ((w :: ws).map List.length) (((w :: ws).map List.length).length - 1)
    have hl : ((w :: ws).map List.length).length - 1 = ws.length := by simp
    have hB : bestLen ((w :: ws).map List.length) < (w :: ws).length := by
      have := hb.1
      unfold bestLen
      rw [List.length_cons]
      omega
    have gl : ∀ j, j < (w :: ws).length → ((w :: ws).map List.length).getD j 0 = ((w :: ws).getD j []).length := fun j hj => by
      rw [List.getD_eq_getElem?_getD, List.getElem?_map, List.getD_eq_getElem?_getD, List.getElem?_eq_getElem hj]
      rfl
    refine ⟨(w :: ws)[bestLen ((w :: ws).map List.length)], List.getElem_mem hB, fun v hv => ?_, ?_⟩
    · obtain ⟨j, hj, e⟩ := List.mem_iff_getElem.mp hv
      have := hb.2 j (by rw [hl]; rw [List.length_cons] at hj; omega)
      have g1 := gl j hj
      have g2 := gl _ hB
      unfold bestLen at g2
      rw [g1] at this
      unfold bestLen at hB ⊢
      rw [g2] at this
      rw [List.getD_eq_getElem?_getD, List.getElem?_eq_getElem hj, List.getD_eq_getElem?_getD, List.getElem?_eq_getElem hB] at this
      rw [← e]
      exact this
    · show (tupLens ((w :: ws).map encT)).bind (fun ns => ((w :: ws).map encT)[bestLen ns]?) = _
      rw [tupLens_ws]
      show ((w :: ws).map encT)[bestLen ((w :: ws).map List.length)]? = _
      rw [List.getElem?_map, List.getElem?_eq_getElem hB]
      rfl
end PL
set_option linter.all false
set_option maxRecDepth 100000
set_option maxHeartbeats 4000000
/-! P37: the second part of the law: signs. -/
namespace PL
open PySem Ev LW Tr
theorem setP_true (l : Nat) (fs : List (List Nat)) : setP (fun _ _ => true) l fs = fs ++ fs.map (· ++ [l]) := by
  unfold setP
  rw [List.filter_eq_self.mpr fun _ _ => by simp]
theorem allS_len : ∀ (w : List Nat) (fs : List (List Nat)), (setsP (fun _ _ => true) w fs).length = 2 ^ w.length * fs.length
  | [], fs => by simp [setsP]
  | a :: w, fs => by
    show (setsP (fun _ _ => true) w (setP (fun _ _ => true) a fs)).length = _
    rw [allS_len w, setP_true, List.length_append, List.length_map, List.length_cons, Nat.pow_succ, Nat.mul_assoc]
    congr 1
    omega
theorem allS_mem_len : ∀ (w : List Nat) (fs : List (List Nat)) (n : Nat), (∀ x ∈ fs, x.length ≤ n) → ∀ x ∈ setsP (fun _ _ => true) w fs, x.length ≤ n + w.length
  | [], fs, n, h, x, m => h x m
  | a :: w, fs, n, h, x, m => by
    have := allS_mem_len w (setP (fun _ _ => true) a fs) (n + 1) (fun y hy => by
      rw [setP_true] at hy
      rcases List.mem_append.mp hy with q | q
      · exact Nat.le_trans (h y q) (Nat.le_succ _)
      · obtain ⟨z, hz, rfl⟩ := List.mem_map.mp q
        rw [List.length_append, List.length_singleton]
        exact Nat.succ_le_succ (h z hz)) x m
    rw [List.length_cons]
    omega
theorem all_sets_s (w : List Nat) (hw : w.length ≤ 8) (S : Sto) : f__law_all_sets [.d (encL w)] S = some (.d (encTs false (isort wlt (setsP (fun _ _ => true) w [[]]))), S) := by
  unfold f__law_all_sets
  rw [fnM_at rfl]
  have c1 : ∀ (fs : List (List Nat)) (_ : fs.length < 1000) (_ : ∀ x ∈ fs, x.length < 1000) (l : Nat) y, c__law_all_sets_1 [some (.d (encL w)), some (.d (encTs false fs)), some (.d (nI l)), y] S = some ((fs.map (· ++ [l])).map encT, S) := fun fs hf hx l y => by
    unfold c__law_all_sets_1
    rw [mLc_onm encT fs (src := srcL (fs.map encT)) (n := fs.length + 1) (by rw [it_l (ds := fs.map encT) rfl, List.length_map]) (fun _ _ => rfl) rfl (by omega) (fun own => [some (.d (encL w)), some (.d (encTs false fs)), some (.d (nI l)), some (.d (encT own))]) (fun own => encT (own ++ [l])) (fun _ _ => rfl) fun own m => ?_]
    · rw [List.map_map]; rfl
    · have ad : dAdd (encT own) (.tuple [nI l]) = some (encT (own ++ [l])) := add_sq true own [l] (by have := hx own m; simp; omega)
      simp [mBin, mVar, getV, rd, mTup, mCons, mNil, datas, show few 1 = true from rfl, ad]
  have hloop : ∃ ρ' S', l__law_all_sets_1 [some (.d (encL w)), some (.d (encTs false [[]])), none, none] S = some (.nx, ρ', S') ∧ ∃ x y, ρ' = [some (.d (encL w)), some (.d (encTs false (setsP (fun _ _ => true) w [[]]))), x, y] ∧ S' = S := by
    unfold l__law_all_sets_1
    have := mFor_inv (mi := mIt (mVar 0)) (f := gN 2) (b := l__law_all_sets_1b) (ρ := [some (.d (encL w)), some (.d (encTs false [[]])), none, none]) (S := S) (wI w) (src := srcL (wI w)) (n := w.length + 1) (it_w (t := false) rfl) (fun _ _ => rfl) (by rw [wI_len])
      (fun i ρ S' => ∃ x y, ρ = [some (.d (encL w)), some (.d (encTs false (setsP (fun _ _ => true) (w.take i) [[]]))), x, y] ∧ S' = S) ⟨none, none, rfl, rfl⟩ ?_
    · rw [wI_len, List.take_length] at this
      exact this
    · rintro i hi ρ S' ⟨x, y, rfl, rfl⟩
      have hi' : i < w.length := by rwa [wI_len] at hi
      have ed : (wI w)[i] = nI w[i] := by simp [wI, nI]
      have hl : (setsP (fun _ _ => true) (w.take i) [[]]).length ≤ 256 := by
        rw [allS_len, List.length_singleton, Nat.mul_one]
        have q : 2 ^ (w.take i).length ≤ 2 ^ 8 := Nat.pow_le_pow_right (by decide) (by rw [List.length_take]; omega)
        exact q
      have hm : ∀ x ∈ setsP (fun _ _ => true) (w.take i) [[]], x.length < 1000 := fun x m => by
        have := allS_mem_len (w.take i) [[]] 0 (by simp) x m
        rw [List.length_take] at this
        omega
      have c1' := c1 (setsP (fun _ _ => true) (w.take i) [[]]) (by omega) hm w[i] y
      have et : setsP (fun _ _ => true) (w.take (i + 1)) [[]] = setsP (fun _ _ => true) (w.take i) [[]] ++ (setsP (fun _ _ => true) (w.take i) [[]]).map (· ++ [w[i]]) := by
        rw [List.take_succ_eq_append_getElem hi', setsP_snoc, setP_true]
      have ad : dAdd (encTs false (setsP (fun _ _ => true) (w.take i) [[]])) (.list (((setsP (fun _ _ => true) (w.take i) [[]]).map (· ++ [w[i]])).map encT)) = some (encTs false (setsP (fun _ _ => true) (w.take (i + 1)) [[]])) := by
        refine (add_list _ _ (by simp only [List.length_map]; omega)).trans ?_
        rw [et, ← List.map_append]
        rfl
      refine ⟨[some (.d (encL w)), some (.d (encTs false (setsP (fun _ _ => true) (w.take i) [[]]))), some (.d (nI w[i])), y], [some (.d (encL w)), some (.d (encTs false (setsP (fun _ _ => true) (w.take (i + 1)) [[]]))), some (.d (nI w[i])), y], S', by rw [ed]; rfl, ?_, some (.d (nI w[i])), y, rfl, rfl⟩
      unfold l__law_all_sets_1b
      simp only [mSet, mBin, mVar, getV, List.getElem?_cons_succ, List.getElem?_cons_zero, Option.join_some, mFr, c1', Option.map_some, Option.bind_some, rd_d, ad, List.set_cons_succ, List.set_cons_zero]
  obtain ⟨ρ', S', h1, x, y, rfl, rfl⟩ := hloop
  have h1 : l__law_all_sets_1 [some (.d (encL w)), some (.d (.list [.tuple []])), none, none] S' = _ := h1
  have so : dSorted (encTs false (setsP (fun _ _ => true) w [[]])) = some ((isort wlt (setsP (fun _ _ => true) w [[]])).map encT) := sorted_ws _
  simp [b__law_all_sets, mSeq, mSet, mFr, mDisp, mTup, mCons, mNil, datas, show few 0 = true from rfl, show few 1 = true from rfl, env0, h1, mRet, mL1, mVar, getV, rd_d, so, outW]
  rfl
theorem intsD_map {α : Type} (f : α → Int) : ∀ l : List α, intsD (l.map fun x => .int (f x)) = some (l.map f)
  | [] => rfl
  | x :: l => by
    show (intsD (l.map fun x => .int (f x))).map (f x :: ·) = _
    rw [intsD_map f l]
    rfl
section
variable (g : Gr) (h : OkG g) (hn : g.n ≤ 5)
include h hn
theorem signs_right_s (c : Cup) (T : Sto) (hletters : ∃ c', f__law_letters [.r 0, .d (.int 5)] (cupC c :: T) = some (.d (encG g), cupC c' :: T)) : ∃ c', f__law_signs_right [.r 0] (cupC c :: T) = some (.d (.bool true), cupC c' :: T) := by
  obtain ⟨c1, e1⟩ := hletters
  have pf : ∀ k, k ≤ 3 → g.n ^ k ≤ 2000 := fun k hk => by
    have h1 : g.n ^ k ≤ 5 ^ k := Nat.pow_le_pow_left hn k
    have h2 : 5 ^ k ≤ 5 ^ 3 := Nat.pow_le_pow_right (by decide) hk
    omega
  obtain ⟨k, c2, hk, hr2⟩ := roll_s c1 T 3 (by decide) (by decide)
  have hr2 : f__law_roll [.r 0, .d (.int 3)] (cupC c1 :: T) = some (.d (nI k), cupC c2 :: T) := hr2
  have adk : dAdd (.int 1) (nI k) = some (nI (k + 1)) := by
    show some (PyData.int (1 + (k : Int))) = _
    unfold nI
    congr 2
    omega
  generalize hLk : k + 1 = L at *
  have ps := fun S => piles_s g h L (by omega) (fun j hj => pf j (by omega)) S
  have hlen : (nfs (fr g h) g.n L).length ≤ 2000 := Nat.le_trans (nfs_len_le _ _ L) (pf L (by omega))
  have sqP : seqOf (encTs true (nfs (fr g h) g.n L)) = some ((nfs (fr g h) g.n L).map encT) := rfl
  obtain ⟨w, c3, hw, hr3⟩ := some_s encT c2 T (nfs (fr g h) g.n L) (nfs_ne h L) (by omega)
  obtain ⟨w1, w2, w3⟩ := mem_nfs.mp hw
  have pw : Pile g h w := nfs_pile g h (by omega) hw
  have wne : w ≠ [] := by rintro rfl; simp at w1; omega
  have ms := many_short (fr g h) w (by omega)
  have bo := fun S => beginnings_of_s g h w pw ms S
  have bf := begS_few g h w w3 w2 (by omega) ms
  have C1 : c__law_signs_right_1 [some (.r 0), some (.d (encG g)), some (.d (encT w)), none, none, none, none, none] (cupC c3 :: T) = some ((bsets g h w).map encT, cupC c3 :: T) := by
    unfold c__law_signs_right_1
    exact mLc_on encT (begS (fr g h) g.n w) (src := srcL ((begS (fr g h) g.n w).map encT)) (n := (begS (fr g h) g.n w).length + 1) (by rw [it_t (ds := (begS (fr g h) g.n w).map encT) (by simp [mFn, mCons, mNil, mVar, getV, bo, encTs]), List.length_map]) (fun _ _ => rfl) rfl (by omega) (fun u => [some (.r 0), some (.d (encG g)), some (.d (encT w)), none, some (.d (encT u)), none, none, none]) (fun u => isFreeB g (isort nlt u)) encT (fun _ _ => rfl) (fun u hu => by
      have so : dSorted (encT u) = some (wI (isort nlt u)) := sorted_sq true u
      have tp : dTuple [.list (wI (isort nlt u))] = some (encT (isort nlt u)) := rfl
      have ul : u.length ≤ 3 := by
        obtain ⟨r, hr⟩ := Option.isSome_iff_exists.mp (begS_mem.mp hu).2
        have := (behind_some.mp hr).2.length
        rw [List.length_append] at this
        omega
      have fs := is_free_set_s g h (isort nlt u) (by rw [isort_len]; omega) (cupC c3 :: T)
      simp [mBool, mFn, mCons, mNil, mVar, getV, mCall, mFr, mL1, rd_d, rds, so, tp, fs]) (fun _ _ _ => rfl)
  have bl : (bsets g h w).length ≤ 400000 := Nat.le_trans (List.length_filter_le _ _) bf
  have C2 : ∀ x4 x5 x6 x7, c__law_signs_right_2 [some (.r 0), some (.d (encG g)), some (.d (encT w)), some (.d (encTs false (bsets g h w))), x4, x5, x6, x7] (cupC c3 :: T) = some ((bsets g h w).map fun u => .int (sg u.length), cupC c3 :: T) := fun x4 x5 x6 x7 => by
    unfold c__law_signs_right_2
    exact mLc_onm encT (bsets g h w) (src := srcL ((bsets g h w).map encT)) (n := (bsets g h w).length + 1) (by rw [it_l (ds := (bsets g h w).map encT) rfl, List.length_map]) (fun _ _ => rfl) rfl (by omega) (fun u => [some (.r 0), some (.d (encG g)), some (.d (encT w)), some (.d (encTs false (bsets g h w))), some (.d (encT u)), x5, x6, x7]) (fun u => .int (sg u.length)) (fun _ _ => rfl) fun u hu => by
      have ln : dLen [encT u] = some (nI u.length) := len_sq true u
      have di : dInt [nI u.length] = some (nI u.length) := rfl
      have md : dMod (nI u.length) (.int 2) = some (nI (u.length % 2)) := mod_nat u.length 2 (by decide)
      have e0 : dEq (nI (u.length % 2)) (.int 0) = some (.bool (decide (u.length % 2 = 0))) := dEq_nat _ 0
      by_cases q : u.length % 2 = 0
      · rw [decide_eq_true q] at e0
        have es : sg u.length = 1 := if_pos q
        rw [es]
        simp [mIf, mBool, mBin, mCall, mCons, mNil, mVar, getV, rds, rd_d, ln, di, mC, md, e0]
      · rw [decide_eq_false q] at e0
        have es : sg u.length = -1 := if_neg q
        rw [es]
        simp [mIf, mBool, mBin, mCall, mCons, mNil, mVar, getV, rds, rd_d, ln, di, mC, md, e0, mNeg]
  have sm : dSum [.list ((bsets g h w).map fun u => .int (sg u.length))] = some (.int 0) := by
    show (intsD _).map (fun ns => PyData.int ns.sum) = _
    rw [intsD_map, Option.map_some, bsets_sum h wne w2]
  have C3 : ∀ x4 x5 x6 x7, c__law_signs_right_3 [some (.r 0), some (.d (encG g)), some (.d (encT w)), some (.d (encTs false (bsets g h w))), x4, x5, x6, x7] (cupC c3 :: T) = some (((firsts (fr g h) g.n w).map fun a => [a]).map encT, cupC c3 :: T) := fun x4 x5 x6 x7 => by
    rw [← bsets_one h wne]
    unfold c__law_signs_right_3
    exact mLc_on encT (bsets g h w) (src := srcL ((bsets g h w).map encT)) (n := (bsets g h w).length + 1) (by rw [it_l (ds := (bsets g h w).map encT) rfl, List.length_map]) (fun _ _ => rfl) rfl (by omega) (fun u => [some (.r 0), some (.d (encG g)), some (.d (encT w)), some (.d (encTs false (bsets g h w))), some (.d (encT u)), x5, x6, x7]) (fun u => decide (u.length = 1)) encT (fun _ _ => rfl) (fun u hu => by
      have ln : dLen [encT u] = some (nI u.length) := len_sq true u
      have e1 : dEq (nI u.length) (.int 1) = some (.bool (decide (u.length = 1))) := dEq_nat _ 1
      simp [mBool, mBin, mCall, mCons, mNil, mVar, getV, rds, rd_d, ln, mC, e1]) (fun _ _ _ => rfl)
  -- what is above the first letters
  have fne := firsts_ne (F := fr g h) wne w2
  have ffs := firsts_fs h w
  have flen : (firsts (fr g h) g.n w).length ≤ 5 := by
    have := asc_few ffs.1 (n := g.n) fun a ha => (firsts_mem.mp ha).1
    omega
  have flt : ∀ a ∈ firsts (fr g h) g.n w, a < g.n := fun a ha => (firsts_mem.mp ha).1
  obtain ⟨best, hb1, hb2, hb3⟩ := maxLen_s (bsets g h w) (List.ne_nil_of_mem (firsts_in h w))
  have hbe := bsets_best h hb1 hb2
  subst hbe
  have pa : f_pile_above [.d (encG g), .d (.tuple (((firsts (fr g h) g.n w).map fun a => [a]).map encT))] (cupC c3 :: T) = some (.d (encT (firsts (fr g h) g.n w)), cupC c3 :: T) := by
    cases q : firsts (fr g h) g.n w with
    | nil => exact absurd q fne
    | cons a vs =>
      rw [q] at flen flt ffs
      have hp : ∀ u ∈ [a] :: vs.map (fun a => [a]), Pile g h u := fun u hu => by
        have : ∃ b, b ∈ a :: vs ∧ u = [b] := by
          rcases List.mem_cons.mp hu with rfl | hu
          · exact ⟨a, List.mem_cons_self, rfl⟩
          · obtain ⟨b, hb, rfl⟩ := List.mem_map.mp hu
            exact ⟨b, List.mem_cons_of_mem _ hb, rfl⟩
        obtain ⟨b, hb, rfl⟩ := this
        exact ⟨by simp, fun x hx => by rw [List.mem_singleton.mp hx]; exact flt b hb, (fs_iff.mp (fs_one b)).1⟩
      have hs : ((vs.map fun a => [a]).map List.length).sum = vs.length := by
        rw [List.map_map]
        clear hp flen flt ffs q
        induction vs with
        | nil => rfl
        | cons b vs ih => rw [List.map_cons, List.sum_cons, ih, List.length_cons]; show 1 + vs.length = _; omega
      rw [List.length_cons] at flen
      have := pile_above_s g h [a] (vs.map fun a => [a]) hp (by rw [hs]; simp; omega) (by rw [List.length_map]; omega) (cupC c3 :: T)
      have ab := (aball_ones (F := fr g h) vs [a] ffs.1 (fs_one a)).1 ffs.2
      rw [ab] at this
      exact this
  have sb : dSorted (.list (wI (firsts (fr g h) g.n w))) = some (wI (firsts (fr g h) g.n w)) := by
    have := sorted_sq false (firsts (fr g h) g.n w)
    rw [isort_nlt (.refl _) ffs.1] at this
    exact this
  have sb' : dSorted (encT (firsts (fr g h) g.n w)) = some (wI (firsts (fr g h) g.n w)) := by
    have := sorted_sq true (firsts (fr g h) g.n w)
    rw [isort_nlt (.refl _) ffs.1] at this
    exact this
  have al := all_sets_s (firsts (fr g h) g.n w) (by omega) (cupC c3 :: T)
  have al : f__law_all_sets [.d (.list (wI (firsts (fr g h) g.n w)))] (cupC c3 :: T) = _ := al
  have is : isort wlt (bsets g h w) = isort wlt (setsP (fun _ _ => true) (firsts (fr g h) g.n w) [[]]) := isort_same (bsets_perm h w) (setsP_nodup _ ffs.1)
  have so : dSorted (encTs false (bsets g h w)) = some ((isort wlt (setsP (fun _ _ => true) (firsts (fr g h) g.n w) [[]])).map encT) := by
    rw [← is]
    exact sorted_ws _
  have lk1 : lk 6 (.list [encT (firsts (fr g h) g.n w), .list ((isort wlt (setsP (fun _ _ => true) (firsts (fr g h) g.n w) [[]])).map encT)]) = true := by
    have h1 : lk 3 (.list ((isort wlt (setsP (fun _ _ => true) (firsts (fr g h) g.n w) [[]])).map encT)) = true := lk_Ts false _ (by
      rw [isort_len, allS_len, List.length_singleton, Nat.mul_one]
      have q : 2 ^ (firsts (fr g h) g.n w).length ≤ 2 ^ 5 := Nat.pow_le_pow_right (by decide) flen
      omega) fun u hu => by
        have := allS_mem_len (firsts (fr g h) g.n w) [[]] 0 (by simp) u ((isort_perm wlt _).mem_iff.mp hu)
        omega
    exact lk_up _ _ (lk_up _ _ (lk_pair _ _ _ (lk_up _ _ (lk_T _ (by omega))) h1))
  have lk1 := law_like_s _ lk1 (cupC c3 :: T)
  generalize hB : firsts (fr g h) g.n w = B at *
  refine ⟨c3, ?_⟩
  unfold f__law_signs_right
  rw [fnM_at rfl]
  have e0 : (env0 8 [Wv.r 0]) = [some (.r 0), none, none, none, none, none, none, none] := rfl
  have tp : dTuple [.list ((B.map fun a => [a]).map encT)] = some (.tuple ((B.map fun a => [a]).map encT)) := rfl
  have ne0 : dNe (.int 0) (.int 0) = some (.bool false) := rfl
  unfold b__law_signs_right
  rw [e0]
  simp only [mSeq, mSet, mFn, mCons, mNil, mVar, getV, mC, List.getElem?_cons_succ, List.getElem?_cons_zero, Option.join_some, Option.map_some, Option.bind_some, e1, List.set_cons_succ, List.set_cons_zero, mBin, hr2, rd_d, adk, ps, mFr, mL1, sqP, hr3, C1, mIfS, mBool, mCall, rds, C2, sm, ne0, Bool.false_eq_true, if_false, mNext]
  have eT : PyData.list ((bsets g h w).map encT) = encTs false (bsets g h w) := rfl
  simp only [eT, C2, C3, sm, ne0, rds, rd_d, Option.map_some, Option.bind_some, List.set_cons_succ, List.set_cons_zero, Bool.false_eq_true, if_false, List.getElem?_cons_succ, List.getElem?_cons_zero, Option.join_some, tp, pa, hb3, mDisp, datas, so, sb', al, mRet, List.length_cons, List.length_nil, show few (0 + 1 + 1) = true from rfl, if_true]
  have eA : encTs false (isort wlt (setsP (fun _ _ => true) B [[]])) = .list ((isort wlt (setsP (fun _ _ => true) B [[]])).map encT) := rfl
  simp only [mDisp, mCons, mNil, mFr, mFn, mL1, mVar, getV, List.getElem?_cons_succ, List.getElem?_cons_zero, Option.join_some, Option.map_some, Option.bind_some, so, sb', al, rd_d, datas, eA, List.length_cons, List.length_nil, show few (0 + 1 + 1) = true from rfl, if_true, lk1, outW, List.take_succ_cons, List.take_length]
end
end PL
set_option linter.all false
set_option maxRecDepth 100000
set_option maxHeartbeats 4000000
/-! P38: free sets above one another. -/
namespace Ev
open PySem
/-- a comprehension whose test changes the store -/
theorem goLc_ch {f : Wv → Env' → Option Env'} {mt : M Bool} {me : M Wv} {ρ0 : Env'} {src : Src} (n : Nat) (J : Sto → Prop) (h : Nat → PyData) (r : Nat → Env') (hs : ∀ i S, src i S = some (((List.range n).map h)[i]?)) (hf : ∀ i, i < n → f (.d (h i)) ρ0 = some (r i)) (ht : ∀ i S, i < n → J S → ∃ b S', mt (r i) S = some (b, S') ∧ J S') (he : ∀ i S, i < n → J S → me (r i) S = some (.d (h i), S)) :
    ∀ (k i : Nat) (S : Sto), i + k = n → J S → ∃ (ys : List Nat) (S' : Sto), goLc src f mt me ρ0 (k + 1) i S = some (ys.map h, S') ∧ J S' ∧ ys.Pairwise (· < ·) ∧ ∀ a ∈ ys, i ≤ a ∧ a < n
  | 0, i, S, q, hJ => by
    have e1 : ((List.range n).map h)[i]? = none := List.getElem?_eq_none (by simp; omega)
    exact ⟨[], S, by rw [goLc_succ, hs, e1]; rfl, hJ, List.Pairwise.nil, by simp⟩
  | k + 1, i, S, q, hJ => by
    have hi : i < n := by omega
    have e1 : ((List.range n).map h)[i]? = some (h i) := by rw [List.getElem?_map, List.getElem?_range hi]; rfl
    obtain ⟨b, S1, h1, hJ1⟩ := ht i S hi hJ
    obtain ⟨ys, S2, h2, hJ2, h3, h4⟩ := goLc_ch n J h r hs hf ht he k (i + 1) S1 (by omega) hJ1
    cases b with
    | true =>
      refine ⟨i :: ys, S2, ?_, hJ2, List.pairwise_cons.mpr ⟨fun a ha => by have := h4 a ha; omega, h3⟩, fun a ha => ?_⟩
      · rw [goLc_succ, hs, e1]
        simp only [Option.bind_some, hf i hi, h1, if_true, he i S1 hi hJ1, datW, h2, Option.map_some, List.map_cons]
      · rcases List.mem_cons.mp ha with rfl | ha
        · omega
        · have := h4 a ha; omega
    | false =>
      refine ⟨ys, S2, ?_, hJ2, h3, fun a ha => by have := h4 a ha; omega⟩
      rw [goLc_succ, hs, e1]
      simp only [Option.bind_some, hf i hi, h1, Bool.false_eq_true, if_false, h2]
end Ev
namespace PL
open PySem Ev LW Tr
theorem both_perm {u v : List Nat} (hu : Asc u) (hv : Asc v) : (u ++ v.filter fun x => !u.contains x).Perm (both u v) := by
  have nu : u.Nodup := hu.imp fun {a b} h => Nat.ne_of_lt h
  have nv : v.Nodup := hv.imp fun {a b} h => Nat.ne_of_lt h
  have nb : (both u v).Nodup := (sdN_asc (u ++ v)).imp fun {a b} h => Nat.ne_of_lt h
  refine (List.perm_ext_iff_of_nodup ?_ nb).mpr fun x => ?_
  · rw [List.nodup_append]
    refine ⟨nu, nodup_filter nv, fun a ha b hb e => ?_⟩
    subst e
    have := (List.mem_filter.mp hb).2
    simp [ha] at this
  · rw [both_mem, List.mem_append, List.mem_filter]
    constructor
    · rintro (h | h)
      · exact .inl h
      · exact .inr h.1
    · rintro (h | h)
      · exact .inl h
      · by_cases q : x ∈ u
        · exact .inl q
        · exact .inr ⟨h, by simpa using q⟩
theorem lst_pf {F : Fr} {w v : List Nat} (hp : w.Perm v) (hv : FS F v) : lst F w = v := by
  have fl : FS F (lst F w) := fs_iff.mpr ⟨Nf.lst _, (pf_perm ((lst_eqv _).perm.trans hp)).mpr hv.2⟩
  exact asc_ext fl.1 hv.1 fun x => by rw [(lst_eqv _).mem, hp.mem_iff]
theorem barGo_some {g : Gr} (h : OkG g) : ∀ (w u B : List Nat), BarOk (fr g h) g.n u B → Nf (fr g h) (u ++ w) → (∀ a ∈ w, a < g.n) → (barGo g B w).isSome = true
  | [], u, B, _, _, _ => rfl
  | a :: w, u, B, hB, hn, hw => by
    have e : u ++ a :: w = (u ++ [a]) ++ w := by simp
    have ha := hw a List.mem_cons_self
    have hpre : ∀ x y : List Nat, Nf (fr g h) (x ++ y) → Nf (fr g h) x := fun x y => by
      refine rev_ind (P := fun y => Nf (fr g h) (x ++ y) → Nf (fr g h) x) ?_ ?_ y
      · intro z; rwa [List.append_nil] at z
      · intro y l ih z
        rw [← List.append_assoc] at z
        exact ih (nf_snoc.mp z).1
    have h1 := nf_snoc.mp (hpre (u ++ [a]) w (by rw [← e]; exact hn))
    have hb : B.contains a = false := by
      cases q : B.contains a with
      | false => rfl
      | true =>
        rw [List.contains_iff_mem] at q
        exact absurd ((hB a ha).mp q) h1.2
    show (if B.contains a then none else barGo g (stepB g B a) w).isSome = true
    rw [hb, if_neg (by simp)]
    exact barGo_some h w (u ++ [a]) _ (barOk_step hB a) (by rw [← e]; exact hn) fun x hx => hw x (List.mem_cons_of_mem _ hx)
theorem optS_isSome (o : Option (List Nat)) : dIsN (optS true o) .none = some (.bool o.isSome) := dIsN_none_sq true o
theorem any_Ts (ws : List (List Nat)) (w : List Nat) : ((ws.map encT).any fun z => PyData.eqv z (encT w)) = ws.contains w := by
  induction ws with
  | nil => rfl
  | cons v ws ih =>
    rw [List.map_cons, List.any_cons, ih, List.contains_cons, eqv_T]
    congr 1
    by_cases q : v = w
    · subst q; simp
    · have q' : ¬ w = v := fun z => q z.symm
      rw [decide_eq_false q]
      exact (beq_eq_false_iff_ne.mpr q').symm
theorem dIn_Ts (t : Bool) (ws : List (List Nat)) (w : List Nat) : dIn (encT w) (encTs t ws) = some (.bool (ws.contains w)) := by
  unfold dIn
  rw [shal_T 8]
  have : seqD (encTs t ws) = some (ws.map encT) := by cases t <;> rfl
  rw [this]
  simp only [if_true, Option.map_some, any_Ts]
theorem setsOf_mem {g : Gr} (h : OkG g) {u : List Nat} : u ∈ setsOf g (List.range g.n) ↔ (∀ a ∈ u, a < g.n) ∧ FS (fr g h) u := by
  have ha : Asc (List.range g.n) := List.pairwise_lt_range
  unfold setsOf
  rw [(isort_perm wlt _).mem_iff, setsR_eq g h, setsP_mem _ ha]
  constructor
  · rintro ⟨h1, h2, h3⟩; exact ⟨fun a m => List.mem_range.mp (h2 a m), h1, h3⟩
  · rintro ⟨h1, h2, h3⟩; exact ⟨h2, fun a m => List.mem_range.mpr (h1 a m), h3⟩
theorem setsOf_ne (g : Gr) (w : List Nat) : setsOf g w ≠ [] := by
  intro e
  have := congrArg List.length e
  unfold setsOf at this
  rw [isort_len] at this
  exact setsR_pos g w [[]] (by simp) (List.length_eq_zero_iff.mp this)
theorem optP_none (o : Option (Nat × Nat)) : dIs (optP o) .none = some (.bool o.isNone) := by cases o <;> rfl
theorem pile_fs {g : Gr} (h : OkG g) {u : List Nat} (hn : ∀ a ∈ u, a < g.n) (hf : Asc u) : Pile g h u := ⟨by have := asc_few hf hn; have := h.n8; omega, hn, asc_nf hf⟩
theorem apB_eq (g : Gr) (h : OkG g) (p q : List Nat) : apB g p q = apF (fr g h) p q := rfl
theorem dIn_sq (t : Bool) (w : List Nat) (a : Nat) : dIn (nI a) (sq t w) = some (.bool (w.contains a)) := by
  cases t
  · exact dIn_T w a
  · exact dIn_T w a
/-- the letters of one that are, or are not, in the other -/
theorem filt_s {mi : M (Src × Nat)} {mt : M Bool} {ρ : Env'} {S : Sto} (u : List Nat) (hu : u.length < 1000) (p : Nat → Bool) (vs : List Nat) (i : Nat) (hm : mi ρ S = some ((srcL (wI u), u.length + 1), S)) (hg : ∀ a, getV ((wipeE ρ vs).set i (some (.d (nI a)))) i = some (.d (nI a))) (ht : ∀ a, mt ((wipeE ρ vs).set i (some (.d (nI a)))) S = some (p a, S)) :
    mLc mi vs (gN i) mt (mVar i) ρ S = some (wI (u.filter p), S) := by
  rw [mLc_on nI u (src := srcL (wI u)) hm (fun _ _ => rfl) rfl (by omega) (fun a => (wipeE ρ vs).set i (some (.d (nI a)))) p nI (fun _ _ => rfl) (fun a _ => ht a) (fun a _ _ => by unfold mVar; rw [hg a]; rfl)]
  rfl
end PL
set_option linter.all false
set_option maxRecDepth 100000
set_option maxHeartbeats 4000000
/-! P39: the third part of the law: free sets above one another. -/
namespace PL
open PySem Ev LW Tr
def optE (b : Bool) (w : List Nat) : PyData := if b then encT w else .none
theorem lk_optE (b : Bool) (w : List Nat) (hl : w.length ≤ 900000) : lk 2 (optE b w) = true := by
  cases b
  · rfl
  · exact lk_T w hl
section
variable (g : Gr) (h : OkG g)
include h
/-- the first stage: letters one by one -/
theorem stage1 (some' : List Nat) (ha : Asc some') (hn : ∀ a ∈ some', a < g.n) (S : Sto) : f_pile_above [.d (encG g), .d (.tuple ((some'.map fun a => [a]).map encT))] S = some (.d (optE (isFreeB g some') some'), S) ∨ some' = [] := by
  cases some' with
  | nil => exact .inr rfl
  | cons a vs =>
    left
    have flen := asc_few ha hn
    rw [List.length_cons] at flen
    have h8 := h.n8
    have hp : ∀ u ∈ [a] :: vs.map (fun a => [a]), Pile g h u := fun u hu => by
      have : ∃ b, b ∈ a :: vs ∧ u = [b] := by
        rcases List.mem_cons.mp hu with rfl | hu
        · exact ⟨a, List.mem_cons_self, rfl⟩
        · obtain ⟨b, hb, rfl⟩ := List.mem_map.mp hu
          exact ⟨b, List.mem_cons_of_mem _ hb, rfl⟩
      obtain ⟨b, hb, rfl⟩ := this
      exact pile_fs h (by simpa using hn b hb) (List.pairwise_singleton _ _)
    have hs : ((vs.map fun a => [a]).map List.length).sum = vs.length := by
      rw [List.map_map]
      clear hp flen ha hn
      induction vs with
      | nil => rfl
      | cons b vs ih => rw [List.map_cons, List.sum_cons, ih, List.length_cons]; show 1 + vs.length = _; omega
    have pa := pile_above_s g h [a] (vs.map fun a => [a]) hp (by rw [hs]; simp; omega) (by rw [List.length_map]; omega) S
    obtain ⟨b1, b2⟩ := aball_ones (F := fr g h) vs [a] ha (fs_one a)
    have pa : f_pile_above [.d (encG g), .d (.tuple (((a :: vs).map fun a => [a]).map encT))] S = some (.d (optS true (aball (fr g h) [a] (vs.map fun a => [a]))), S) := pa
    rw [pa]
    by_cases q : PF (fr g h) (a :: vs)
    · rw [b1 q, (isFreeB_iff h).mpr ⟨hn, ha, q⟩]
      rfl
    · rw [b2 q]
      have : isFreeB g (a :: vs) = false := by
        cases z : isFreeB g (a :: vs) with
        | false => rfl
        | true => exact absurd ((isFreeB_iff h).mp z).2.2 q
      rw [this]
      rfl
theorem draw_some (hn6 : g.n ≤ 6) (c : Cup) (T : Sto) : ∃ some' c', Asc some' ∧ (∀ a ∈ some', a < g.n) ∧ c__law_above_right_1 [some (.r 0), some (.d (encG g)), none, none, none, none, none, none, none, none, none, none] (cupC c :: T) = some (wI some', cupC c' :: T) := by
  unfold c__law_above_right_1
  have ixn : dIx (encG g) (.int 0) = some (nI g.n) := rfl
  have hm : mRg1 (mCons (mBin dIx (mVar 0 ) (mC (.int 0))) mNil) [some (.d (encG g))] (cupC c :: T) = mRg1 (mCons (mBin dIx (mVar 0 ) (mC (.int 0))) mNil) [some (.d (encG g))] (cupC c :: T) := rfl
  have hi : mRg1 (mCons (mBin dIx (mVar 1) (mC (.int 0))) mNil) [some (.r 0), some (.d (encG g)), none, none, none, none, none, none, none, none, none, none] (cupC c :: T) = some ((srcR 0 g.n, g.n + 1), cupC c :: T) := it_rg (by simp [mCons, mNil, mBin, mVar, getV, mC, rd_d, ixn, nI]) (by omega)
  obtain ⟨ys, S', e, ⟨c', rfl⟩, h1, h2⟩ := goLc_ch (f := gN 3) (mt := mBool (mBin dEq (mFn f__law_roll (mCons (mVar 0) (mCons (mC (.int 2)) mNil))) (mC (.int 0)))) (me := mVar 3) (ρ0 := [some (.r 0), some (.d (encG g)), none, none, none, none, none, none, none, none, none, none]) (src := srcR 0 g.n) g.n (fun S => ∃ c', S = cupC c' :: T) nI (fun i => [some (.r 0), some (.d (encG g)), none, some (.d (nI i)), none, none, none, none, none, none, none, none]) (fun i S => src_rg g.n i S) (fun _ _ => rfl) (fun i S hi hJ => by
      obtain ⟨c', rfl⟩ := hJ
      obtain ⟨k, c2, hk, hr⟩ := roll_s c' T 2 (by decide) (by decide)
      have hr : f__law_roll [.r 0, .d (.int 2)] (cupC c' :: T) = some (.d (nI k), cupC c2 :: T) := hr
      have e0 : dEq (nI k) (.int 0) = some (.bool (decide (k = 0))) := dEq_nat k 0
      exact ⟨decide (k = 0), cupC c2 :: T, by simp [mBool, mBin, mFn, mCons, mNil, mVar, getV, mC, hr, rd_d, e0], c2, rfl⟩) (fun _ _ _ _ => rfl) g.n 0 (cupC c :: T) (by omega) ⟨c, rfl⟩
  refine ⟨ys, c', h1, fun a ha => (h2 a ha).2, ?_⟩
  unfold mLc
  rw [hi]
  simp only [Option.bind_some]
  rw [if_pos (few_le (by omega))]
  exact e
end
section
variable (g : Gr) (h : OkG g) (one other : List Nat) (n1 : ∀ a ∈ one, a < g.n) (n2 : ∀ a ∈ other, a < g.n) (f1 : Tr.FS (fr g h) one) (f2 : Tr.FS (fr g h) other) (S : Sto)
include n1 n2 f1 f2
theorem both_lt : ∀ a ∈ both one other, a < g.n := fun a ha => by
  rcases both_mem.mp ha with q | q
  · exact n1 a q
  · exact n2 a q
theorem both_free : isFreeB g (both one other) = apF (fr g h) (one.filter fun x => !other.contains x) (other.filter fun x => !one.contains x) := by
  rw [Bool.eq_iff_iff, isFreeB_iff h, ← both_pf f1 f2]
  constructor
  · rintro ⟨_, _, q⟩; exact q
  · intro q; exact ⟨both_lt g h one other n1 n2 f1 f2, sdN_asc _, q⟩
theorem stage2a : f_pile_above [.d (encG g), .d (.tuple [encT one, encT other])] S = some (.d (optE (isFreeB g (both one other)) (both one other)), S) := by
  have p1 := pile_fs h n1 f1.1
  have p2 := pile_fs h n2 f2.1
  have l1 := asc_few f1.1 n1
  have l2 := asc_few f2.1 n2
  have h8 := h.n8
  have pa : f_pile_above [.d (encG g), .d (.tuple [encT one, encT other])] S = some (.d (optS true (aball (fr g h) one [other])), S) := pile_above_s g h one [other] (fun w hw => by
    rcases List.mem_cons.mp hw with rfl | hw
    · exact p1
    · rw [List.mem_singleton.mp hw]; exact p2) (by simp; omega) (by simp) S
  have e : aball (fr g h) one [other] = Tr.ab2 (fr g h) one other := by
    show (match Tr.ab2 (fr g h) one other with | none => none | some r => some r) = _
    cases Tr.ab2 (fr g h) one other <;> rfl
  rw [pa, e, ab2_fs f1 f2, both_free g h one other n1 n2 f1 f2]
  cases apF (fr g h) (one.filter fun x => !other.contains x) (other.filter fun x => !one.contains x) <;> rfl
theorem stage2b : ∃ o, f_above_bar [.d (encG g), .d (encT one), .d (encT other)] S = some (.d o, S) ∧ dIs o .none = some (.bool (isFreeB g (both one other))) := by
  have p1 := pile_fs h n1 f1.1
  have p2 := pile_fs h n2 f2.1
  have l1 := asc_few f1.1 n1
  have l2 := asc_few f2.1 n2
  have h8 := h.n8
  obtain ⟨_, c1, c2⟩ := cm2_fs f1 f2
  refine ⟨_, above_bar_s g h one other _ _ p1 p2 (by omega) (by omega) c1 c2 S, ?_⟩
  rw [optP_none, barAll_none, sdN_of_asc (fs_filter f1 _).1, sdN_of_asc (fs_filter f2 _).1, both_free g h one other n1 n2 f1 f2]
  rfl
theorem stage3 : f_common_beginning [.d (encG g), .d (.tuple [encT one, encT other])] S = some (.d (encT (one.filter fun x => other.contains x)), S) := by
  have p1 := pile_fs h n1 f1.1
  have p2 := pile_fs h n2 f2.1
  have l1 := asc_few f1.1 n1
  have l2 := asc_few f2.1 n2
  have h8 := h.n8
  have := common_beginning_s g h one other p1 p2 (by omega) (by omega) S
  rw [this]
  have e : lst (fr g h) (cmn (fr g h) one.length one other) = _ := (cm2_fs f1 f2).1
  rw [e]
end
section
variable (g : Gr) (h : OkG g) (one other : List Nat) (n1 : ∀ a ∈ one, a < g.n) (n2 : ∀ a ∈ other, a < g.n) (f1 : Tr.FS (fr g h) one) (f2 : Tr.FS (fr g h) other) (S : Sto) (hb : PF (fr g h) (both one other))
include n1 n2 f1 f2 hb
/-- one without the other -/
theorem mine_apart : apB g (one.filter fun x => !other.contains x) other = true := by
  rw [apB_eq g h, apF_iff]
  intro a ha b hbm
  obtain ⟨h1, h2⟩ := List.mem_filter.mp ha
  have hne : a ≠ b := by
    rintro rfl
    simp [hbm] at h2
  exact (pf_iff_asc (sdN_asc _)).mp hb a (both_mem.mpr (.inl h1)) b (both_mem.mpr (.inr hbm)) hne
theorem mine_perm : ((one.filter fun x => !other.contains x) ++ other).Perm (both one other) := by
  have := both_perm f2.1 f1.1
  refine (List.perm_append_comm).trans (this.trans ?_)
  have e : both other one = both one other := asc_ext (sdN_asc _) (sdN_asc _) fun x => by rw [both_mem, both_mem]; exact Or.comm
  rw [e]
theorem mine_both : lst (fr g h) ((one.filter fun x => !other.contains x) ++ other) = both one other := lst_pf (mine_perm g h one other n1 n2 f1 f2 hb) ⟨sdN_asc _, hb⟩
theorem mine_lt : ∀ a ∈ one.filter fun x => !other.contains x, a < g.n := fun a ha => n1 a (List.mem_filter.mp ha).1
theorem stage4 : f_are_apart [.d (encG g), .d (encT (one.filter fun x => !other.contains x)), .d (encT other)] S = some (.d (.bool true), S) ∧
    f_joined_pile [.d (encG g), .d (encT (one.filter fun x => !other.contains x)), .d (encT other)] S = some (.d (encT (both one other)), S) ∧
    ∃ o, f_barred_behind [.d (encG g), .d (encT (both one other))] S = some (.d o, S) ∧ dIsN o .none = some (.bool true) := by
  have pm : Pile g h (one.filter fun x => !other.contains x) := pile_fs h (mine_lt g h one other n1 n2 f1 f2 hb) (fs_filter f1 _).1
  have p2 := pile_fs h n2 f2.1
  have pb : Pile g h (both one other) := pile_fs h (both_lt g h one other n1 n2 f1 f2) (sdN_asc _)
  refine ⟨?_, ?_, ?_⟩
  · rw [are_apart_s g h _ _ pm p2 S, mine_apart g h one other n1 n2 f1 f2 hb]
  · rw [joined_pile_s g h _ _ pm p2 S, mine_both g h one other n1 n2 f1 f2 hb]
  · refine ⟨_, barred_behind_s g h (both one other) pb.len pb.lt S, ?_⟩
    rw [optS_isSome, barGo_some h (both one other) [] [] (barOk_nil _) pb.nf pb.lt]
theorem stage5 : f_four_parts [.d (encG g), .d (encT (one.filter fun x => !other.contains x)), .d (encT other), .d (encT other), .d (encT (one.filter fun x => !other.contains x))] S = some (.d (.tuple [encT [], encT (one.filter fun x => !other.contains x), encT other, encT []]), S) ∧
    f_are_four_parts [.d (encG g), .d (encT (one.filter fun x => !other.contains x)), .d (encT other), .d (encT other), .d (encT (one.filter fun x => !other.contains x)), .d (.tuple [encT [], encT (one.filter fun x => !other.contains x), encT other, encT []])] S = some (.d (.bool true), S) := by
  have fm := fs_filter f1 (fun x => !other.contains x)
  have pm : Pile g h (one.filter fun x => !other.contains x) := pile_fs h (mine_lt g h one other n1 n2 f1 f2 hb) fm.1
  have p2 := pile_fs h n2 f2.1
  have pe : Pile g h [] := ⟨by simp, by simp, nf_nil⟩
  have lm := asc_few fm.1 (mine_lt g h one other n1 n2 f1 f2 hb)
  have l2 := asc_few f2.1 n2
  have h8 := h.n8
  have ap := mine_apart g h one other n1 n2 f1 f2 hb
  have mb := mine_both g h one other n1 n2 f1 f2 hb
  have mp := mine_perm g h one other n1 n2 f1 f2 hb
  have mb2 : lst (fr g h) (other ++ one.filter fun x => !other.contains x) = both one other := lst_pf (List.perm_append_comm.trans mp) ⟨sdN_asc _, hb⟩
  obtain ⟨k1, k2, k3⟩ := cm2_fs fm f2
  have dj : ∀ x ∈ one.filter (fun x => !other.contains x), x ∉ other := fun x hx => by
    have := (List.mem_filter.mp hx).2
    simpa using this
  have e1 : ((one.filter fun x => !other.contains x).filter fun x => other.contains x) = [] := List.filter_eq_nil_iff.mpr fun x hx => by simpa using dj x hx
  have e2 : ((one.filter fun x => !other.contains x).filter fun x => !other.contains x) = one.filter fun x => !other.contains x := List.filter_eq_self.mpr fun x hx => by simpa using dj x hx
  have e3 : (other.filter fun x => !(one.filter fun x => !other.contains x).contains x) = other := List.filter_eq_self.mpr fun x hx => by
    cases q : (one.filter fun x => !other.contains x).contains x with
    | false => rfl
    | true =>
      rw [List.contains_iff_mem] at q
      exact absurd hx (dj x q)
  rw [e1] at k1
  rw [k1, e2] at k2
  rw [k1, e3] at k3
  have k4 : behind (fr g h) other other = some [] := behind_some.mpr ⟨nf_nil, by rw [List.append_nil]; exact Eqv.refl _ _⟩
  generalize hM : (one.filter fun x => !other.contains x) = mine at *
  refine ⟨four_parts_s g h mine other other mine [] mine other [] (by omega) (by omega) (by omega) S k1 k2 k3 k4 pm p2 p2 pm (by rw [mb, mb2]), ?_⟩
  have := are_four_parts_s g h mine other other mine [] mine other [] pm p2 p2 pm pe pm p2 pe S
  rw [this, ap]
  have z : [lst (fr g h) ([] ++ mine), lst (fr g h) (other ++ []), lst (fr g h) ([] ++ other), lst (fr g h) (mine ++ [])] = [mine, other, other, mine] := by
    rw [List.nil_append, List.append_nil, List.nil_append, List.append_nil, show lst (fr g h) mine = mine from pm.nf, show lst (fr g h) other = other from p2.nf]
  rw [decide_eq_true z]
  rfl
end
end PL
set_option linter.all false
set_option maxRecDepth 100000
set_option maxHeartbeats 4000000
/-! P40: the third part, and the law. -/
namespace PL
open PySem Ev LW Tr
theorem optE_is (b : Bool) (w : List Nat) (n : Nat) (hn : 2 ≤ n) (hl : w.length ≤ 900000) : lk n (optE b w) = true := by
  have h2 := lk_optE b w hl
  obtain ⟨d, rfl⟩ : ∃ d, n = 2 + d := ⟨n - 2, by omega⟩
  induction d with
  | zero => exact h2
  | succ d ih => exact lk_up _ _ (ih (by omega))
section
variable (g : Gr) (h : OkG g) (hn : g.n ≤ 6)
include h hn
theorem above_right_s (c : Cup) (T : Sto) (hletters : ∃ c', f__law_letters [.r 0, .d (.int 6)] (cupC c :: T) = some (.d (encG g), cupC c' :: T)) : ∃ c', f__law_above_right [.r 0] (cupC c :: T) = some (.d (.bool true), cupC c' :: T) := by
  obtain ⟨c1, e1⟩ := hletters
  obtain ⟨so, c2, sa, sn, e2⟩ := draw_some g h hn c1 T
  have fr1 := fun S => free_sets_s g h S
  have hr : (List.range g.n).length ≤ 8 := by rw [List.length_range]; omega
  have sl := setsOf_len g (List.range g.n) hr
  have sne := setsOf_ne g (List.range g.n)
  have slen := asc_few sa sn
  have inS : dIn (encT so) (encTs true (setsOf g (List.range g.n))) = some (.bool (isFreeB g so)) := by
    rw [dIn_Ts]
    congr 2
    rw [Bool.eq_iff_iff, List.contains_iff_mem, setsOf_mem h, isFreeB_iff h]
  obtain ⟨one, c3, ho, e3⟩ := some_s encT c2 T (setsOf g (List.range g.n)) sne (by omega)
  obtain ⟨other, c4, hot, e4⟩ := some_s encT c3 T (setsOf g (List.range g.n)) sne (by omega)
  obtain ⟨n1, f1⟩ := (setsOf_mem h).mp ho
  obtain ⟨n2, f2⟩ := (setsOf_mem h).mp hot
  have l1 := asc_few f1.1 n1
  have l2 := asc_few f2.1 n2
  have sqF : seqOf (encTs true (setsOf g (List.range g.n))) = some ((setsOf g (List.range g.n)).map encT) := rfl
  have bl : (both one other).length ≤ 60 := (pile_fs h (both_lt g h one other n1 n2 f1 f2) (sdN_asc _)).len
  -- the environments
  let E0 : Env' := [some (.r 0), none, none, none, none, none, none, none, none, none, none, none]
  let E1 : Env' := [some (.r 0), some (.d (encG g)), none, none, none, none, none, none, none, none, none, none]
  let E2 : Env' := [some (.r 0), some (.d (encG g)), some (.d (encT so)), none, none, none, none, none, none, none, none, none]
  let E4 : Env' := [some (.r 0), some (.d (encG g)), some (.d (encT so)), none, some (.d (optE (isFreeB g so) so)), none, none, none, none, none, none, none]
  let E7 : Env' := [some (.r 0), some (.d (encG g)), some (.d (encT so)), none, some (.d (optE (isFreeB g so) so)), none, some (.d (encT one)), some (.d (encT other)), none, none, none, none]
  let E8 : Env' := [some (.r 0), some (.d (encG g)), some (.d (encT so)), none, some (.d (optE (isFreeB g so) so)), none, some (.d (encT one)), some (.d (encT other)), some (.d (encT (both one other))), none, none, none]
  let E9 : Env' := [some (.r 0), some (.d (encG g)), some (.d (encT so)), none, some (.d (optE (isFreeB g so) so)), none, some (.d (encT one)), some (.d (encT other)), some (.d (encT (both one other))), some (.d (encT (one.filter fun x => other.contains x))), none, none]
  have s1 : mSet 1 (mFn f__law_letters (mCons (mVar 0) (mCons (mC (.int 6)) mNil))) E0 (cupC c :: T) = some (.nx, E1, cupC c1 :: T) := by
    simp [E0, E1, mSet, mFn, mCons, mNil, mVar, getV, mC, e1]
  have tpS : dTuple [.list (wI so)] = some (encT so) := rfl
  have s2 : mSet 2 (mCall dTuple (mCons (mFr c__law_above_right_1) mNil)) E1 (cupC c1 :: T) = some (.nx, E2, cupC c2 :: T) := by
    simp [E1, E2, mSet, mCall, mCons, mNil, mFr, e2, rds, rd_d, tpS]
  have s3 : mSet 4 (mIf (mBool (mBin dIn (mVar 2) (mFn f_free_sets (mCons (mVar 1) mNil)))) (mVar 2) (mC .none)) E2 (cupC c2 :: T) = some (.nx, E4, cupC c2 :: T) := by
    cases q : isFreeB g so with
    | true =>
      rw [q] at inS
      simp [E2, E4, mSet, mIf, mBool, mBin, mVar, getV, mFn, mCons, mNil, fr1, rd_d, inS, q, optE]
    | false =>
      rw [q] at inS
      simp [E2, E4, mSet, mIf, mBool, mBin, mVar, getV, mFn, mCons, mNil, fr1, rd_d, inS, q, optE, mC]
  have C2 : c__law_above_right_2 E4 (cupC c2 :: T) = some ((so.map fun a => [a]).map encT, cupC c2 :: T) := by
    unfold c__law_above_right_2
    rw [mLc_onm nI so (src := srcL (wI so)) (n := so.length + 1) (it_w (t := true) rfl) (fun _ _ => rfl) rfl (by omega) (fun a => [some (.r 0), some (.d (encG g)), some (.d (encT so)), none, some (.d (optE (isFreeB g so) so)), some (.d (nI a)), none, none, none, none, none, none]) (fun a => encT [a]) (fun _ _ => rfl) (fun a _ => rfl), List.map_map]
    rfl
  have tpO : dTuple [.list ((so.map fun a => [a]).map encT)] = some (.tuple ((so.map fun a => [a]).map encT)) := rfl
  have lkD := law_like_s _ (optE_is (isFreeB g so) so 6 (by omega) (by omega)) (cupC c2 :: T)
  have s4 : mIfS (mAnd (mBool (mBin dNe (mVar 2) (mTup mNil))) (mNot (mBool (mFn f__law_like (mCons (mFn f_pile_above (mCons (mVar 1) (mCons (mCall dTuple (mCons (mFr c__law_above_right_2) mNil)) mNil))) (mCons (mVar 4) mNil)))))) (mRet (mC (.bool false))) mNext E4 (cupC c2 :: T) = some (.nx, E4, cupC c2 :: T) := by
    have ne : dNe (encT so) (.tuple []) = some (.bool (!decide (so = []))) := by
      have := eqv_T so []
      unfold dNe
      rw [shal_T 8]
      show some (PyData.bool (!PyData.eqv (encT so) (encT []))) = _
      rw [this]
    have C2' := C2
    have E4d : E4 = [some (.r 0), some (.d (encG g)), some (.d (encT so)), none, some (.d (optE (isFreeB g so) so)), none, none, none, none, none, none, none] := rfl
    rw [E4d] at C2' ⊢
    rcases stage1 g h so sa sn (cupC c2 :: T) with st | rfl
    · by_cases q : so = []
      · rw [decide_eq_true q] at ne
        simp [mIfS, mAnd, mBool, mBin, mVar, getV, mTup, mNil, datas, show few 0 = true from rfl, rd_d, ne, mNext]
      · rw [decide_eq_false q] at ne
        simp [mIfS, mAnd, mBool, mBin, mVar, getV, mTup, mCons, mNil, datas, show few 0 = true from rfl, rd_d, ne, mNot, mFn, mCall, mFr, C2', rds, tpO, st, lkD, mNext, -List.map_map]
    · have ne : dNe (encT []) (.tuple []) = some (.bool false) := ne
      simp [mIfS, mAnd, mBool, mBin, mVar, getV, mTup, mNil, datas, show few 0 = true from rfl, rd_d, ne, mNext]
  have s5 : mUnp (gsC (gN 6) (gsC (gN 7) gsN)) (mCons (mFn f__law_some (mCons (mVar 0) (mCons (mFr (mL1 seqOf (mFn f_free_sets (mCons (mVar 1) mNil)))) mNil))) (mCons (mFn f__law_some (mCons (mVar 0) (mCons (mFr (mL1 seqOf (mFn f_free_sets (mCons (mVar 1) mNil)))) mNil))) mNil)) E4 (cupC c2 :: T) = some (.nx, E7, cupC c4 :: T) := by
    simp [E4, E7, mUnp, mFn, mCons, mNil, mVar, getV, mFr, mL1, fr1, rd_d, sqF, e3, e4, show few 2 = true from rfl, gsC, gsN, gN]
  have C3 : c__law_above_right_3 E7 (cupC c4 :: T) = some (wI (other.filter fun x => !one.contains x), cupC c4 :: T) := by
    unfold c__law_above_right_3
    refine filt_s other (by omega) (fun x => !one.contains x) [5] 5 (it_w (t := true) rfl) (fun a => rfl) (fun a => ?_)
    have := dNin_T one a
    have this : dNin (nI a) (encT one) = some (.bool (!one.contains a)) := this
    simp only [E7, wipeE, List.set_cons_succ, List.set_cons_zero, mBool, mBin, mVar, getV, List.getElem?_cons_succ, List.getElem?_cons_zero, Option.join_some, Option.map_some, Option.bind_some, rd_d, this]
  have ad : dAdd (encT one) (encT (other.filter fun x => !one.contains x)) = some (encT (one ++ other.filter fun x => !one.contains x)) := add_sq true one _ (by have := List.length_filter_le (fun x => !one.contains x) other; omega)
  have so3 : dSorted (encT (one ++ other.filter fun x => !one.contains x)) = some (wI (both one other)) := by
    have := sorted_sq true (one ++ other.filter fun x => !one.contains x)
    rw [isort_nlt (both_perm f1.1 f2.1) (sdN_asc _)] at this
    exact this
  have tp3 : dTuple [.list (wI (other.filter fun x => !one.contains x))] = some (encT (other.filter fun x => !one.contains x)) := rfl
  have tp4 : dTuple [.list (wI (both one other))] = some (encT (both one other)) := rfl
  have s6 : mSet 8 (mCall dTuple (mCons (mFr (mL1 dSorted (mBin dAdd (mVar 6) (mCall dTuple (mCons (mFr c__law_above_right_3) mNil))))) mNil)) E7 (cupC c4 :: T) = some (.nx, E8, cupC c4 :: T) := by
    have C3' : c__law_above_right_3 [some (.r 0), some (.d (encG g)), some (.d (encT so)), none, some (.d (optE (isFreeB g so) so)), none, some (.d (encT one)), some (.d (encT other)), none, none, none, none] (cupC c4 :: T) = _ := C3
    simp only [E7, E8, mSet, mCall, mCons, mNil, mFr, mL1, mBin, mVar, getV, C3', Option.map_some, Option.bind_some, rds, rd_d, tp3, List.getElem?_cons_succ, List.getElem?_cons_zero, Option.join_some, ad, so3, tp4, List.set_cons_succ, List.set_cons_zero]
  obtain ⟨o2, b1, b2⟩ := stage2b g h one other n1 n2 f1 f2 (cupC c4 :: T)
  have b0 := stage2a g h one other n1 n2 f1 f2 (cupC c4 :: T)
  have ifb := fun S => is_free_set_s g h (both one other) (by omega) S
  have lk7 := law_like_s (.list [optE (isFreeB g (both one other)) (both one other), .bool (isFreeB g (both one other))]) (lk_pair 5 _ _ (optE_is _ _ 5 (by omega) (by omega)) rfl) (cupC c4 :: T)
  have s7 : mIfS (mNot (mBool (mFn f__law_like (mCons (mFr (mDisp (mCons (mFn f_pile_above (mCons (mVar 1) (mCons (mTup (mCons (mVar 6) (mCons (mVar 7) mNil))) mNil))) (mCons (mBin dIs (mFn f_above_bar (mCons (mVar 1) (mCons (mVar 6) (mCons (mVar 7) mNil)))) (mC .none)) mNil)))) (mCons (mFr (mDisp (mCons (mIf (mBool (mFn f_is_free_set (mCons (mVar 1) (mCons (mVar 8) mNil)))) (mVar 8) (mC .none)) (mCons (mFn f_is_free_set (mCons (mVar 1) (mCons (mVar 8) mNil))) mNil)))) mNil))))) (mRet (mC (.bool false))) mNext E8 (cupC c4 :: T) = some (.nx, E8, cupC c4 :: T) := by
    cases q : isFreeB g (both one other) <;>
      (rw [q] at b0 b2 lk7 ifb; simp [E8, mIfS, mNot, mBool, mFn, mCons, mNil, mFr, mDisp, mVar, getV, mTup, datas, show few 2 = true from rfl, b0, mBin, b1, mC, rd_d, b2, mIf, ifb, optE] at lk7 ⊢; simp [lk7, mNext])
  have C4 : c__law_above_right_4 E8 (cupC c4 :: T) = some (wI (one.filter fun x => other.contains x), cupC c4 :: T) := by
    unfold c__law_above_right_4
    refine filt_s one (by omega) (fun x => other.contains x) [5] 5 (it_w (t := true) rfl) (fun a => rfl) (fun a => ?_)
    have := dIn_T other a
    have this : dIn (nI a) (encT other) = some (.bool (other.contains a)) := this
    simp only [E8, wipeE, List.set_cons_succ, List.set_cons_zero, mBool, mBin, mVar, getV, List.getElem?_cons_succ, List.getElem?_cons_zero, Option.join_some, Option.map_some, Option.bind_some, rd_d, this]
  have tp5 : dTuple [.list (wI (one.filter fun x => other.contains x))] = some (encT (one.filter fun x => other.contains x)) := rfl
  have s8 : mSet 9 (mCall dTuple (mCons (mFr c__law_above_right_4) mNil)) E8 (cupC c4 :: T) = some (.nx, E9, cupC c4 :: T) := by
    simp only [mSet, mCall, mCons, mNil, mFr, C4, Option.map_some, Option.bind_some, rds, rd_d, tp5]
    rfl
  have cb := stage3 g h one other n1 n2 f1 f2 (cupC c4 :: T)
  have lk9 := law_like_s (encT (one.filter fun x => other.contains x)) (lk_up _ _ (lk_up _ _ (lk_up _ _ (lk_up _ _ (lk_T _ (by have := List.length_filter_le (fun x => other.contains x) one; omega)))))) (cupC c4 :: T)
  have s9 : mIfS (mNot (mBool (mFn f__law_like (mCons (mFn f_common_beginning (mCons (mVar 1) (mCons (mTup (mCons (mVar 6) (mCons (mVar 7) mNil))) mNil))) (mCons (mVar 9) mNil))))) (mRet (mC (.bool false))) mNext E9 (cupC c4 :: T) = some (.nx, E9, cupC c4 :: T) := by
    simp only [E9, mIfS, mNot, mBool, mFn, mCons, mNil, mVar, getV, mTup, datas, List.length_cons, List.length_nil, show few (0 + 1 + 1) = true from rfl, if_true, cb, lk9, mNext, List.getElem?_cons_succ, List.getElem?_cons_zero, Option.join_some, Option.map_some, Option.bind_some, Bool.not_true, Bool.false_eq_true, if_false]
  refine ⟨c4, ?_⟩
  unfold f__law_above_right
  rw [fnM_at rfl]
  have e0 : (env0 12 [Wv.r 0]) = E0 := rfl
  unfold b__law_above_right
  rw [e0]
  cases q : isFreeB g (both one other) with
  | false =>
    rw [q] at ifb
    have s10 : mIfS (mNot (mBool (mFn f_is_free_set (mCons (mVar 1) (mCons (mVar 8) mNil))))) (mRet (mC (.bool true))) mNext E9 (cupC c4 :: T) = some (.rt (.d (.bool true)), E9, cupC c4 :: T) := by
      simp [E9, mIfS, mNot, mBool, mFn, mCons, mNil, mVar, getV, ifb, mRet, mC]
    simp only [mSeq, s1, s2, s3, s4, s5, s6, s7, s8, s9, s10, Option.bind_some, outW, take_cup]
  | true =>
    rw [q] at ifb
    have hb : PF (fr g h) (both one other) := ((isFreeB_iff h).mp q).2.2
    have s10 : mIfS (mNot (mBool (mFn f_is_free_set (mCons (mVar 1) (mCons (mVar 8) mNil))))) (mRet (mC (.bool true))) mNext E9 (cupC c4 :: T) = some (.nx, E9, cupC c4 :: T) := by
      simp [E9, mIfS, mNot, mBool, mFn, mCons, mNil, mVar, getV, ifb, mNext]
    obtain ⟨a1, a2, ob, a3, a4⟩ := stage4 g h one other n1 n2 f1 f2 (cupC c4 :: T) hb
    obtain ⟨p1, p2⟩ := stage5 g h one other n1 n2 f1 f2 (cupC c4 :: T) hb
    have C5 : c__law_above_right_5 E9 (cupC c4 :: T) = some (wI (one.filter fun x => !other.contains x), cupC c4 :: T) := by
      unfold c__law_above_right_5
      refine filt_s one (by omega) (fun x => !other.contains x) [5] 5 (it_w (t := true) rfl) (fun a => rfl) (fun a => ?_)
      have := dNin_T other a
      have this : dNin (nI a) (encT other) = some (.bool (!other.contains a)) := this
      simp only [E9, wipeE, List.set_cons_succ, List.set_cons_zero, mBool, mBin, mVar, getV, List.getElem?_cons_succ, List.getElem?_cons_zero, Option.join_some, Option.map_some, Option.bind_some, rd_d, this]
    have tp6 : dTuple [.list (wI (one.filter fun x => !other.contains x))] = some (encT (one.filter fun x => !other.contains x)) := rfl
    generalize hM : (one.filter fun x => !other.contains x) = mine at *
    have hlm : mine.length ≤ one.length := by rw [← hM]; exact List.length_filter_le _ _
    let E10 : Env' := [some (.r 0), some (.d (encG g)), some (.d (encT so)), none, some (.d (optE (isFreeB g so) so)), none, some (.d (encT one)), some (.d (encT other)), some (.d (encT (both one other))), some (.d (encT (one.filter fun x => other.contains x))), some (.d (encT mine)), none]
    let E11 : Env' := [some (.r 0), some (.d (encG g)), some (.d (encT so)), none, some (.d (optE (isFreeB g so) so)), none, some (.d (encT one)), some (.d (encT other)), some (.d (encT (both one other))), some (.d (encT (one.filter fun x => other.contains x))), some (.d (encT mine)), some (.d (.tuple [encT [], encT mine, encT other, encT []]))]
    have s11 : mSet 10 (mCall dTuple (mCons (mFr c__law_above_right_5) mNil)) E9 (cupC c4 :: T) = some (.nx, E10, cupC c4 :: T) := by
      simp only [mSet, mCall, mCons, mNil, mFr, C5, Option.map_some, Option.bind_some, rds, rd_d, tp6]
      rfl
    have lk3 : lk 6 (.list [.bool true, encT (both one other), .bool true]) = true := by
      have := lk_up _ _ (lk_up _ _ (lk_up _ _ (lk_T (both one other) (by omega))))
      unfold lk
      simp [this]
      rfl
    have lk12 := law_like_s _ lk3 (cupC c4 :: T)
    have s12 : mIfS (mNot (mBool (mFn f__law_like (mCons (mFr (mDisp (mCons (mFn f_are_apart (mCons (mVar 1) (mCons (mVar 10) (mCons (mVar 7) mNil)))) (mCons (mFn f_joined_pile (mCons (mVar 1) (mCons (mVar 10) (mCons (mVar 7) mNil)))) (mCons (mBin dIsN (mFn f_barred_behind (mCons (mVar 1) (mCons (mVar 8) mNil))) (mC .none)) mNil))))) (mCons (mFr (mDisp (mCons (mC (.bool true)) (mCons (mVar 8) (mCons (mC (.bool true)) mNil))))) mNil))))) (mRet (mC (.bool false))) mNext E10 (cupC c4 :: T) = some (.nx, E10, cupC c4 :: T) := by
      simp [E10, mIfS, mNot, mBool, mFn, mCons, mNil, mFr, mDisp, mVar, getV, datas, show few 3 = true from rfl, a1, a2, mBin, a3, mC, rd_d, a4, lk12, mNext]
    have s13 : mSet 11 (mFn f_four_parts (mCons (mVar 1) (mCons (mVar 10) (mCons (mVar 7) (mCons (mVar 7) (mCons (mVar 10) mNil)))))) E10 (cupC c4 :: T) = some (.nx, E11, cupC c4 :: T) := by
      simp [E10, E11, mSet, mFn, mCons, mNil, mVar, getV, p1]
    have dt : dIs (.bool true) (.bool true) = some (.bool true) := rfl
    have de : dEq (.tuple [encT [], encT mine, encT other, encT []]) (.tuple [.tuple [], encT mine, encT other, .tuple []]) = some (.bool true) := by
      have := dEq_Ts true [[], mine, other, []] [[], mine, other, []]
      rw [decide_eq_true rfl] at this
      exact this
    have s14 : mRet (mAndV (mBin dIs (mFn f_are_four_parts (mCons (mVar 1) (mCons (mVar 10) (mCons (mVar 7) (mCons (mVar 7) (mCons (mVar 10) (mCons (mVar 11) mNil))))))) (mC (.bool true))) (mBin dEq (mVar 11) (mTup (mCons (mTup mNil) (mCons (mVar 10) (mCons (mVar 7) (mCons (mTup mNil) mNil))))))) E11 (cupC c4 :: T) = some (.rt (.d (.bool true)), E11, cupC c4 :: T) := by
      simp [E11, mRet, mAndV, mBool, mBin, mFn, mCons, mNil, mVar, getV, p2, mC, rd_d, dt, mTup, datas, show few 0 = true from rfl, show few 4 = true from rfl, de]
    simp only [mSeq, s1, s2, s3, s4, s5, s6, s7, s8, s9, s10, s11, s12, s13, s14, Option.bind_some, outW, take_cup]
end
/-! ### the law -/
theorem abs_nat (i : Int) : dAbs [.int i] = some (nI i.natAbs) := by
  show some (PyData.int (if ilt i 0 then -i else i)) = _
  rw [ilt_eq]
  unfold nI
  congr 2
  by_cases q : i < 0
  · simp [q]; omega
  · simp [q]; omega
theorem cup_s (ns : List Int) (hl : ns.length ≤ 63) : ∃ c, f__law_cup [.s (ns.map .int)] [] = some (.r 0, [cupC c]) := by
  unfold f__law_cup
  rw [fnM_at rfl]
  obtain ⟨i0, rest, hi⟩ : ∃ (i0 : Int) (rest : List PyData), ns.map PyData.int ++ [.int 0] = .int i0 :: rest := by
    cases ns with
    | nil => exact ⟨0, [], rfl⟩
    | cons i ns => exact ⟨i, ns.map PyData.int ++ [.int 0], rfl⟩
  have ad : dAdd (.list (ns.map PyData.int)) (.list [.int 0]) = some (.list (.int i0 :: rest)) := by
    rw [← hi]
    exact add_list _ _ (by rw [List.length_map]; simp; omega)
  have i0' : dIx (.list (.int i0 :: rest)) (.int 0) = some (.int i0) := rfl
  have ab := abs_nat i0
  generalize i0.natAbs = a at *
  have pw : dPow (.int 10) (.int 18) = some (nI 1000000000000000000) := rfl
  have ge : dGe (nI a) (nI 1000000000000000000) = some (.bool (!decide (a < 1000000000000000000))) := by
    show (ltD (nI a) (nI 1000000000000000000)).map (fun b => PyData.bool (!b)) = _
    have : ltD (nI a) (nI 1000000000000000000) = some (ilt (a : Nat) (1000000000000000000 : Nat)) := rfl
    rw [this, ilt_nat]
    rfl
  have fd : dFdiv (nI a) (.int 331) = some (nI (a / 331)) := fdiv_nat a 331 (by decide) (by decide)
  have mu : dMul (nI a) (.int 1103) = some (nI (a * 1103)) := mul_small a 1103 (by decide)
  have a2 : dAdd (nI (a * 1103)) (.int 101747) = some (nI (a * 1103 + 101747)) := add_nat _ 101747
  have di : dInt [nI (a * 1103 + 101747)] = some (nI (a * 1103 + 101747)) := rfl
  have md : dMod (nI (a * 1103 + 101747)) (.int 1048576) = some (nI ((a * 1103 + 101747) % 1048576)) := mod_nat _ 1048576 (by decide)
  have ls : mListS (mVar 0) [some (.s (ns.map PyData.int)), none] [] = some (ns.map PyData.int, []) := rfl
  generalize (a * 1103 + 101747) % 1048576 = b at *
  by_cases q : a < 1000000000000000000
  · rw [decide_eq_true q] at ge
    refine ⟨⟨0, b⟩, ?_⟩
    simp [b__law_cup, mSeq, mSet, mCall, mCons, mNil, mBin, mFr, env0, ls, mDisp, mC, datas, show few 1 = true from rfl, show few 2 = true from rfl, rd_d, ad, i0', rds, ab, mRet, mNew, mIf, mBool, mVar, getV, pw, ge, mu, a2, di, md, outW]
    rfl
  · rw [decide_eq_false q] at ge
    refine ⟨⟨a / 331, b⟩, ?_⟩
    simp [b__law_cup, mSeq, mSet, mCall, mCons, mNil, mBin, mFr, env0, ls, mDisp, mC, datas, show few 1 = true from rfl, show few 2 = true from rfl, rd_d, ad, i0', rds, ab, mRet, mNew, mIf, mBool, mVar, getV, pw, ge, fd, mu, a2, di, md, outW]
    rfl
theorem law_s (ns : List Int) (hl : ns.length ≤ 63) : f_law [.s (ns.map .int)] [] = some (.d (.bool true), []) := by
  unfold f_law
  rw [fnM_at rfl]
  have w := (by kernel_rfl : f__law_written_right [] [] = some (.d (.bool true), []))
  obtain ⟨c, hc⟩ := cup_s ns hl
  have hloop : ∃ ρ' S', l_law_1 [some (.s (ns.map .int)), some (.r 0), none] [cupC c] = some (.nx, ρ', S') ∧ ∃ c', S' = [cupC c'] := by
    unfold l_law_1
    have := mFor_inv (mi := mRg1 (mCons (mC (.int 6)) mNil)) (f := gN 2) (b := l_law_1b) (ρ := [some (.s (ns.map .int)), some (.r 0), none]) (S := [cupC c]) ((List.range 6).map nI) (src := srcR 0 6) (n := 7) (it_rg rfl (by omega)) (fun i S => src_rg _ i S) rfl
      (fun i ρ S' => ∃ c' x, ρ = [some (.s (ns.map .int)), some (.r 0), x] ∧ S' = [cupC c']) ⟨c, none, rfl, rfl⟩ ?_
    · obtain ⟨ρ', S', h1, c', _, _, h2⟩ := this
      exact ⟨ρ', S', h1, c', h2⟩
    · rintro i hi ρ S' ⟨c', x, rfl, rfl⟩
      have ed : ((List.range 6).map nI)[i] = nI i := by simp
      obtain ⟨g1, d1, ok1, n1, q1⟩ := letters_s c' [] 4 (by decide) (by decide)
      obtain ⟨c2, r1⟩ := counts_right_s g1 ok1 n1 c' [] ⟨d1, q1⟩
      obtain ⟨g2, d2, ok2, n2, q2⟩ := letters_s c2 [] 5 (by decide) (by decide)
      obtain ⟨c3, r2⟩ := signs_right_s g2 ok2 n2 c2 [] ⟨d2, q2⟩
      obtain ⟨g3, d3, ok3, n3, q3⟩ := letters_s c3 [] 6 (by decide) (by decide)
      obtain ⟨c4, r3⟩ := above_right_s g3 ok3 n3 c3 [] ⟨d3, q3⟩
      refine ⟨[some (.s (ns.map .int)), some (.r 0), some (.d (nI i))], [some (.s (ns.map .int)), some (.r 0), some (.d (nI i))], [cupC c4], by rw [ed]; rfl, ?_, c4, _, rfl, rfl⟩
      unfold l_law_1b
      simp [mIfS, mOr, mNot, mBool, mFn, mCons, mNil, mVar, getV, r1, r2, r3, mNext]
  obtain ⟨ρ', S', h1, c', rfl⟩ := hloop
  simp [b_law, mSeq, mIfS, mNot, mBool, mFn, mCons, mNil, mVar, getV, env0, w, mNext, mSet, hc, h1, mRet, mC, outW]
end PL
set_option linter.all false
set_option maxRecDepth 100000
set_option maxHeartbeats 0
namespace LW
open PySem PySem.Spec PyProof.Rows L2 Ev
theorem facts {P : Program} {w : World} {K : PySem.W.Frag} {h : Heap} {mg : Str → Option Value} {f : Addr} (X : K.In h) (G : h.Ns mainGlobals mg) (hfa : mg ("law" : Str) = some (.ref f)) (c : He.SaysD fa fn K) :
    ∃ fd : FuncData, (∀ (s : Shared) (v : Value), BindsTo s fd ⟨[v], []⟩ [("script", v)]) ∧ ∀ base : Heap, K.In base → base.Ns mainGlobals mg → FnOk P w K mg base CX0 10 f fd ["script"] (spE K f_law) := by
  obtain ⟨fd__law_roll, F__law_roll⟩ := c.def_ 0 (d := mkD "_law_roll" 95) rfl
  have g__law_roll := He.glo_ok X G (c.fact 0 (f := .glo "_law_roll") rfl)
  obtain ⟨fd__law_letters, F__law_letters⟩ := c.def_ 1 (d := mkD "_law_letters" 99) rfl
  have g__law_letters := He.glo_ok X G (c.fact 1 (f := .glo "_law_letters") rfl)
  obtain ⟨fd__law_sort, F__law_sort⟩ := c.def_ 2 (d := mkD "_law_sort" 97) rfl
  have g__law_sort := He.glo_ok X G (c.fact 2 (f := .glo "_law_sort") rfl)
  obtain ⟨fd__law_like, F__law_like⟩ := c.def_ 3 (d := mkD "_law_like" 98) rfl
  have g__law_like := He.glo_ok X G (c.fact 3 (f := .glo "_law_like") rfl)
  obtain ⟨fd__law_some, F__law_some⟩ := c.def_ 4 (d := mkD "_law_some" 96) rfl
  have g__law_some := He.glo_ok X G (c.fact 4 (f := .glo "_law_some") rfl)
  obtain ⟨fd_is_free, F_is_free⟩ := c.def_ 5 (d := mkD "is_free" 18) rfl
  have g_is_free := He.glo_ok X G (c.fact 5 (f := .glo "is_free") rfl)
  obtain ⟨fd_is_tuple_of, F_is_tuple_of⟩ := c.def_ 6 (d := mkD "is_tuple_of" 12) rfl
  have g_is_tuple_of := He.glo_ok X G (c.fact 6 (f := .glo "is_tuple_of") rfl)
  obtain ⟨fd_is_whole, F_is_whole⟩ := c.def_ 7 (d := mkD "is_whole" 10) rfl
  have g_is_whole := He.glo_ok X G (c.fact 7 (f := .glo "is_whole") rfl)
  obtain ⟨fd_is_pair, F_is_pair⟩ := c.def_ 8 (d := mkD "is_pair" 15) rfl
  have g_is_pair := He.glo_ok X G (c.fact 8 (f := .glo "is_pair") rfl)
  obtain ⟨fd_is_letters, F_is_letters⟩ := c.def_ 9 (d := mkD "is_letters" 16) rfl
  have g_is_letters := He.glo_ok X G (c.fact 9 (f := .glo "is_letters") rfl)
  obtain ⟨fd_need_letters, F_need_letters⟩ := c.def_ 10 (d := mkD "need_letters" 17) rfl
  have g_need_letters := He.glo_ok X G (c.fact 10 (f := .glo "need_letters") rfl)
  obtain ⟨fd_is_word_of, F_is_word_of⟩ := c.def_ 11 (d := mkD "is_word_of" 29) rfl
  have g_is_word_of := He.glo_ok X G (c.fact 11 (f := .glo "is_word_of") rfl)
  obtain ⟨fd_first_places, F_first_places⟩ := c.def_ 12 (d := mkD "first_places" 31) rfl
  have g_first_places := He.glo_ok X G (c.fact 12 (f := .glo "first_places") rfl)
  obtain ⟨fd_least, F_least⟩ := c.def_ 13 (d := mkD "least" 32) rfl
  have g_least := He.glo_ok X G (c.fact 13 (f := .glo "least") rfl)
  obtain ⟨fd_is_pile_of, F_is_pile_of⟩ := c.def_ 14 (d := mkD "is_pile_of" 33) rfl
  have g_is_pile_of := He.glo_ok X G (c.fact 14 (f := .glo "is_pile_of") rfl)
  obtain ⟨fd_need_pile, F_need_pile⟩ := c.def_ 15 (d := mkD "need_pile" 34) rfl
  have g_need_pile := He.glo_ok X G (c.fact 15 (f := .glo "need_pile") rfl)
  obtain ⟨fd_need_two, F_need_two⟩ := c.def_ 16 (d := mkD "need_two" 44) rfl
  have g_need_two := He.glo_ok X G (c.fact 16 (f := .glo "need_two") rfl)
  obtain ⟨fd_taken, F_taken⟩ := c.def_ 17 (d := mkD "taken" 40) rfl
  have g_taken := He.glo_ok X G (c.fact 17 (f := .glo "taken") rfl)
  obtain ⟨fd_behind_in, F_behind_in⟩ := c.def_ 18 (d := mkD "behind_in" 41) rfl
  have g_behind_in := He.glo_ok X G (c.fact 18 (f := .glo "behind_in") rfl)
  obtain ⟨fd_common_in, F_common_in⟩ := c.def_ 19 (d := mkD "common_in" 63) rfl
  have g_common_in := He.glo_ok X G (c.fact 19 (f := .glo "common_in") rfl)
  obtain ⟨fd_rests_in, F_rests_in⟩ := c.def_ 20 (d := mkD "rests_in" 83) rfl
  have g_rests_in := He.glo_ok X G (c.fact 20 (f := .glo "rests_in") rfl)
  obtain ⟨fd_above_bar, F_above_bar⟩ := c.def_ 21 (d := mkD "above_bar" 87) rfl
  have g_above_bar := He.glo_ok X G (c.fact 21 (f := .glo "above_bar") rfl)
  obtain ⟨fd_apart_in, F_apart_in⟩ := c.def_ 22 (d := mkD "apart_in" 64) rfl
  have g_apart_in := He.glo_ok X G (c.fact 22 (f := .glo "apart_in") rfl)
  obtain ⟨fd_are_apart, F_are_apart⟩ := c.def_ 23 (d := mkD "are_apart" 66) rfl
  have g_are_apart := He.glo_ok X G (c.fact 23 (f := .glo "are_apart") rfl)
  obtain ⟨fd_need_four, F_need_four⟩ := c.def_ 24 (d := mkD "need_four" 68) rfl
  have g_need_four := He.glo_ok X G (c.fact 24 (f := .glo "need_four") rfl)
  obtain ⟨fd_are_four_parts, F_are_four_parts⟩ := c.def_ 25 (d := mkD "are_four_parts" 73) rfl
  have g_are_four_parts := He.glo_ok X G (c.fact 25 (f := .glo "are_four_parts") rfl)
  obtain ⟨fd_need_word, F_need_word⟩ := c.def_ 26 (d := mkD "need_word" 30) rfl
  have g_need_word := He.glo_ok X G (c.fact 26 (f := .glo "need_word") rfl)
  obtain ⟨fd_step_in, F_step_in⟩ := c.def_ 27 (d := mkD "step_in" 37) rfl
  have g_step_in := He.glo_ok X G (c.fact 27 (f := .glo "step_in") rfl)
  obtain ⟨fd_barred_behind, F_barred_behind⟩ := c.def_ 28 (d := mkD "barred_behind" 38) rfl
  have g_barred_behind := He.glo_ok X G (c.fact 28 (f := .glo "barred_behind") rfl)
  obtain ⟨fd_need_piles, F_need_piles⟩ := c.def_ 29 (d := mkD "need_piles" 61) rfl
  have g_need_piles := He.glo_ok X G (c.fact 29 (f := .glo "need_piles") rfl)
  obtain ⟨fd_need_all, F_need_all⟩ := c.def_ 30 (d := mkD "need_all" 62) rfl
  have g_need_all := He.glo_ok X G (c.fact 30 (f := .glo "need_all") rfl)
  obtain ⟨fd_common_beginning, F_common_beginning⟩ := c.def_ 31 (d := mkD "common_beginning" 65) rfl
  have g_common_beginning := He.glo_ok X G (c.fact 31 (f := .glo "common_beginning") rfl)
  obtain ⟨fd_are_alike_in, F_are_alike_in⟩ := c.def_ 32 (d := mkD "are_alike_in" 69) rfl
  have g_are_alike_in := He.glo_ok X G (c.fact 32 (f := .glo "are_alike_in") rfl)
  obtain ⟨fd_need_joins, F_need_joins⟩ := c.def_ 33 (d := mkD "need_joins" 71) rfl
  have g_need_joins := He.glo_ok X G (c.fact 33 (f := .glo "need_joins") rfl)
  obtain ⟨fd_parts_in, F_parts_in⟩ := c.def_ 34 (d := mkD "parts_in" 70) rfl
  have g_parts_in := He.glo_ok X G (c.fact 34 (f := .glo "parts_in") rfl)
  obtain ⟨fd_four_parts, F_four_parts⟩ := c.def_ 35 (d := mkD "four_parts" 72) rfl
  have g_four_parts := He.glo_ok X G (c.fact 35 (f := .glo "four_parts") rfl)
  obtain ⟨fd_every_letter, F_every_letter⟩ := c.def_ 36 (d := mkD "every_letter" 23) rfl
  have g_every_letter := He.glo_ok X G (c.fact 36 (f := .glo "every_letter") rfl)
  obtain ⟨fd_sets_in, F_sets_in⟩ := c.def_ 37 (d := mkD "sets_in" 20) rfl
  have g_sets_in := He.glo_ok X G (c.fact 37 (f := .glo "sets_in") rfl)
  obtain ⟨fd_free_sets, F_free_sets⟩ := c.def_ 38 (d := mkD "free_sets" 24) rfl
  have g_free_sets := He.glo_ok X G (c.fact 38 (f := .glo "free_sets") rfl)
  obtain ⟨fd_is_some, F_is_some⟩ := c.def_ 39 (d := mkD "is_some" 21) rfl
  have g_is_some := He.glo_ok X G (c.fact 39 (f := .glo "is_some") rfl)
  obtain ⟨fd_is_free_in, F_is_free_in⟩ := c.def_ 40 (d := mkD "is_free_in" 22) rfl
  have g_is_free_in := He.glo_ok X G (c.fact 40 (f := .glo "is_free_in") rfl)
  obtain ⟨fd_is_free_set, F_is_free_set⟩ := c.def_ 41 (d := mkD "is_free_set" 25) rfl
  have g_is_free_set := He.glo_ok X G (c.fact 41 (f := .glo "is_free_set") rfl)
  obtain ⟨fd_joined_pile, F_joined_pile⟩ := c.def_ 42 (d := mkD "joined_pile" 35) rfl
  have g_joined_pile := He.glo_ok X G (c.fact 42 (f := .glo "joined_pile") rfl)
  obtain ⟨fd_above_in, F_above_in⟩ := c.def_ 43 (d := mkD "above_in" 84) rfl
  have g_above_in := He.glo_ok X G (c.fact 43 (f := .glo "above_in") rfl)
  obtain ⟨fd_above_all_in, F_above_all_in⟩ := c.def_ 44 (d := mkD "above_all_in" 85) rfl
  have g_above_all_in := He.glo_ok X G (c.fact 44 (f := .glo "above_all_in") rfl)
  obtain ⟨fd_pile_above, F_pile_above⟩ := c.def_ 45 (d := mkD "pile_above" 86) rfl
  have g_pile_above := He.glo_ok X G (c.fact 45 (f := .glo "pile_above") rfl)
  obtain ⟨fd__law_above_right, F__law_above_right⟩ := c.def_ 46 (d := mkD "_law_above_right" 103) rfl
  have g__law_above_right := He.glo_ok X G (c.fact 46 (f := .glo "_law_above_right") rfl)
  obtain ⟨fd_kept_places, F_kept_places⟩ := c.def_ 47 (d := mkD "kept_places" 54) rfl
  have g_kept_places := He.glo_ok X G (c.fact 47 (f := .glo "kept_places") rfl)
  obtain ⟨fd_next_bits, F_next_bits⟩ := c.def_ 48 (d := mkD "next_bits" 52) rfl
  have g_next_bits := He.glo_ok X G (c.fact 48 (f := .glo "next_bits") rfl)
  obtain ⟨fd_tied_below, F_tied_below⟩ := c.def_ 49 (d := mkD "tied_below" 51) rfl
  have g_tied_below := He.glo_ok X G (c.fact 49 (f := .glo "tied_below") rfl)
  obtain ⟨fd_levels_in, F_levels_in⟩ := c.def_ 50 (d := mkD "levels_in" 53) rfl
  have g_levels_in := He.glo_ok X G (c.fact 50 (f := .glo "levels_in") rfl)
  obtain ⟨fd_beginnings_in, F_beginnings_in⟩ := c.def_ 51 (d := mkD "beginnings_in" 55) rfl
  have g_beginnings_in := He.glo_ok X G (c.fact 51 (f := .glo "beginnings_in") rfl)
  obtain ⟨fd_need_one, F_need_one⟩ := c.def_ 52 (d := mkD "need_one" 56) rfl
  have g_need_one := He.glo_ok X G (c.fact 52 (f := .glo "need_one") rfl)
  obtain ⟨fd_turned_round, F_turned_round⟩ := c.def_ 53 (d := mkD "turned_round" 42) rfl
  have g_turned_round := He.glo_ok X G (c.fact 53 (f := .glo "turned_round") rfl)
  obtain ⟨fd_endings_of, F_endings_of⟩ := c.def_ 54 (d := mkD "endings_of" 58) rfl
  have g_endings_of := He.glo_ok X G (c.fact 54 (f := .glo "endings_of") rfl)
  obtain ⟨fd_is_beginning, F_is_beginning⟩ := c.def_ 55 (d := mkD "is_beginning" 45) rfl
  have g_is_beginning := He.glo_ok X G (c.fact 55 (f := .glo "is_beginning") rfl)
  obtain ⟨fd_ahead_in, F_ahead_in⟩ := c.def_ 56 (d := mkD "ahead_in" 43) rfl
  have g_ahead_in := He.glo_ok X G (c.fact 56 (f := .glo "ahead_in") rfl)
  obtain ⟨fd_is_ending, F_is_ending⟩ := c.def_ 57 (d := mkD "is_ending" 46) rfl
  have g_is_ending := He.glo_ok X G (c.fact 57 (f := .glo "is_ending") rfl)
  obtain ⟨fd_tops_in, F_tops_in⟩ := c.def_ 58 (d := mkD "tops_in" 90) rfl
  have g_tops_in := He.glo_ok X G (c.fact 58 (f := .glo "tops_in") rfl)
  obtain ⟨fd_is_pointed, F_is_pointed⟩ := c.def_ 59 (d := mkD "is_pointed" 92) rfl
  have g_is_pointed := He.glo_ok X G (c.fact 59 (f := .glo "is_pointed") rfl)
  obtain ⟨fd_left_ahead, F_left_ahead⟩ := c.def_ 60 (d := mkD "left_ahead" 48) rfl
  have g_left_ahead := He.glo_ok X G (c.fact 60 (f := .glo "left_ahead") rfl)
  obtain ⟨fd_left_behind, F_left_behind⟩ := c.def_ 61 (d := mkD "left_behind" 47) rfl
  have g_left_behind := He.glo_ok X G (c.fact 61 (f := .glo "left_behind") rfl)
  obtain ⟨fd_sign_in, F_sign_in⟩ := c.def_ 62 (d := mkD "sign_in" 75) rfl
  have g_sign_in := He.glo_ok X G (c.fact 62 (f := .glo "sign_in") rfl)
  obtain ⟨fd_counts_in, F_counts_in⟩ := c.def_ 63 (d := mkD "counts_in" 79) rfl
  have g_counts_in := He.glo_ok X G (c.fact 63 (f := .glo "counts_in") rfl)
  obtain ⟨fd_need_whole, F_need_whole⟩ := c.def_ 64 (d := mkD "need_whole" 11) rfl
  have g_need_whole := He.glo_ok X G (c.fact 64 (f := .glo "need_whole") rfl)
  obtain ⟨fd_pile_counts, F_pile_counts⟩ := c.def_ 65 (d := mkD "pile_counts" 80) rfl
  have g_pile_counts := He.glo_ok X G (c.fact 65 (f := .glo "pile_counts") rfl)
  obtain ⟨fd_piles_of_length, F_piles_of_length⟩ := c.def_ 66 (d := mkD "piles_of_length" 81) rfl
  have g_piles_of_length := He.glo_ok X G (c.fact 66 (f := .glo "piles_of_length") rfl)
  obtain ⟨fd__law_counts_right, F__law_counts_right⟩ := c.def_ 67 (d := mkD "_law_counts_right" 100) rfl
  have g__law_counts_right := He.glo_ok X G (c.fact 67 (f := .glo "_law_counts_right") rfl)
  obtain ⟨fd__law_cup, F__law_cup⟩ := c.def_ 68 (d := mkD "_law_cup" 94) rfl
  have g__law_cup := He.glo_ok X G (c.fact 68 (f := .glo "_law_cup") rfl)
  obtain ⟨fd__law_all_sets, F__law_all_sets⟩ := c.def_ 69 (d := mkD "_law_all_sets" 102) rfl
  have g__law_all_sets := He.glo_ok X G (c.fact 69 (f := .glo "_law_all_sets") rfl)
  obtain ⟨fd_beginnings_of, F_beginnings_of⟩ := c.def_ 70 (d := mkD "beginnings_of" 57) rfl
  have g_beginnings_of := He.glo_ok X G (c.fact 70 (f := .glo "beginnings_of") rfl)
  obtain ⟨fd__law_signs_right, F__law_signs_right⟩ := c.def_ 71 (d := mkD "_law_signs_right" 101) rfl
  have g__law_signs_right := He.glo_ok X G (c.fact 71 (f := .glo "_law_signs_right") rfl)
  obtain ⟨fd_greatest_free_sets, F_greatest_free_sets⟩ := c.def_ 72 (d := mkD "greatest_free_sets" 26) rfl
  have g_greatest_free_sets := He.glo_ok X G (c.fact 72 (f := .glo "greatest_free_sets") rfl)
  obtain ⟨fd_by_top, F_by_top⟩ := c.def_ 73 (d := mkD "by_top" 89) rfl
  have g_by_top := He.glo_ok X G (c.fact 73 (f := .glo "by_top") rfl)
  obtain ⟨fd_pointed_counts, F_pointed_counts⟩ := c.def_ 74 (d := mkD "pointed_counts" 91) rfl
  have g_pointed_counts := He.glo_ok X G (c.fact 74 (f := .glo "pointed_counts") rfl)
  obtain ⟨fd__law_written_right, F__law_written_right⟩ := c.def_ 75 (d := mkD "_law_written_right" 104) rfl
  have g__law_written_right := He.glo_ok X G (c.fact 75 (f := .glo "_law_written_right") rfl)
  obtain ⟨fd_law, F_law⟩ := c.def_ 76 (d := mkD "law" 105) rfl
  have g_law := He.glo_ok X G (c.fact 76 (f := .glo "law") rfl)
  have M : Mg mg := ⟨He.free_ok X G (c.fact 77 (f := .free "abs") rfl), He.free_ok X G (c.fact 78 (f := .free "all") rfl), He.free_ok X G (c.fact 79 (f := .free "bool") rfl), He.free_ok X G (c.fact 80 (f := .free "enumerate") rfl), He.free_ok X G (c.fact 81 (f := .free "int") rfl), He.free_ok X G (c.fact 82 (f := .free "isinstance") rfl), He.free_ok X G (c.fact 83 (f := .free "len") rfl), He.free_ok X G (c.fact 84 (f := .free "list") rfl), He.free_ok X G (c.fact 85 (f := .free "max") rfl), He.free_ok X G (c.fact 86 (f := .free "min") rfl), He.free_ok X G (c.fact 87 (f := .free "range") rfl), He.free_ok X G (c.fact 88 (f := .free "set") rfl), He.free_ok X G (c.fact 89 (f := .free "sorted") rfl), He.free_ok X G (c.fact 90 (f := .free "str") rfl), He.free_ok X G (c.fact 91 (f := .free "sum") rfl), He.free_ok X G (c.fact 92 (f := .free "tuple") rfl), He.free_ok X G (c.fact 93 (f := .free "zip") rfl), He.int_ok X G (c.fact 94 (f := .int "LONG_pilecounts" 60) rfl), He.int_ok X G (c.fact 95 (f := .int "LONG_words" 60) rfl), He.int_ok X G (c.fact 96 (f := .int "MANY_beginninglists" 2000) rfl), He.int_ok X G (c.fact 97 (f := .int "MANY_pilecounts" 2000) rfl), He.int_ok X G (c.fact 98 (f := .int "MOST_commonpiles" 10) rfl), He.int_ok X G (c.fact 99 (f := .int "MOST_letters" 8) rfl)⟩
  have e := hfa.symm.trans g_law
  cases e
  have b := FunD.bindsA (ps := ["script"]) F_law fun _ _ _ _ _ _ us hl => match us, hl with | [_], _ => rfl
  refine ⟨fd_law, fun s v => b s [v] rfl, fun base _ _ => ?_⟩
  have D__law_roll := ok__law_roll (P := P) (w := w) (base := base) M F__law_roll g__law_roll
  have D__law_letters := ok__law_letters (P := P) (w := w) (base := base) M F__law_letters g__law_letters D__law_roll
  have D__law_sort := ok__law_sort (P := P) (w := w) (base := base) M F__law_sort g__law_sort
  have D__law_like := okf__law_like (P := P) (w := w) (base := base) M F__law_like g__law_like D__law_sort
  have D__law_some := ok__law_some (P := P) (w := w) (base := base) M F__law_some g__law_some D__law_roll
  have D_is_free := ok_is_free (P := P) (w := w) (base := base) M F_is_free g_is_free
  have D_is_tuple_of := ok_is_tuple_of (P := P) (w := w) (base := base) M F_is_tuple_of g_is_tuple_of
  have D_is_whole := ok_is_whole (P := P) (w := w) (base := base) M F_is_whole g_is_whole
  have D_is_pair := ok_is_pair (P := P) (w := w) (base := base) M F_is_pair g_is_pair D_is_tuple_of D_is_whole
  have D_is_letters := ok_is_letters (P := P) (w := w) (base := base) M F_is_letters g_is_letters D_is_tuple_of D_is_whole D_is_pair
  have D_need_letters := ok_need_letters (P := P) (w := w) (base := base) M F_need_letters g_need_letters D_is_letters
  have D_is_word_of := ok_is_word_of (P := P) (w := w) (base := base) M F_is_word_of g_is_word_of D_is_tuple_of D_is_whole
  have D_first_places := ok_first_places (P := P) (w := w) (base := base) M F_first_places g_first_places D_is_free
  have D_least := ok_least (P := P) (w := w) (base := base) M F_least g_least D_first_places
  have D_is_pile_of := ok_is_pile_of (P := P) (w := w) (base := base) M F_is_pile_of g_is_pile_of D_is_word_of D_least
  have D_need_pile := ok_need_pile (P := P) (w := w) (base := base) M F_need_pile g_need_pile D_is_pile_of
  have D_need_two := ok_need_two (P := P) (w := w) (base := base) M F_need_two g_need_two D_need_letters D_need_pile
  have D_taken := ok_taken (P := P) (w := w) (base := base) M F_taken g_taken D_is_free
  have D_behind_in := ok_behind_in (P := P) (w := w) (base := base) M F_behind_in g_behind_in D_taken D_least
  have D_common_in := ok_common_in (P := P) (w := w) (base := base) M F_common_in g_common_in D_taken D_least
  have D_rests_in := ok_rests_in (P := P) (w := w) (base := base) M F_rests_in g_rests_in D_common_in D_behind_in
  have D_above_bar := ok_above_bar (P := P) (w := w) (base := base) M F_above_bar g_above_bar D_need_two D_rests_in D_is_free
  have D_apart_in := ok_apart_in (P := P) (w := w) (base := base) M F_apart_in g_apart_in D_is_free
  have D_are_apart := ok_are_apart (P := P) (w := w) (base := base) M F_are_apart g_are_apart D_need_two D_apart_in
  have D_need_four := ok_need_four (P := P) (w := w) (base := base) M F_need_four g_need_four D_need_letters D_need_pile
  have D_are_four_parts := ok_are_four_parts (P := P) (w := w) (base := base) M F_are_four_parts g_are_four_parts D_need_four D_is_tuple_of D_is_pile_of D_least D_apart_in
  have D_need_word := ok_need_word (P := P) (w := w) (base := base) M F_need_word g_need_word D_is_word_of
  have D_step_in := ok_step_in (P := P) (w := w) (base := base) M F_step_in g_step_in D_is_free
  have D_barred_behind := ok_barred_behind (P := P) (w := w) (base := base) M F_barred_behind g_barred_behind D_need_letters D_need_word D_step_in
  have D_need_piles := ok_need_piles (P := P) (w := w) (base := base) M F_need_piles g_need_piles D_is_tuple_of D_is_pile_of
  have D_need_all := ok_need_all (P := P) (w := w) (base := base) M F_need_all g_need_all D_need_letters D_need_piles
  have D_common_beginning := ok_common_beginning (P := P) (w := w) (base := base) M F_common_beginning g_common_beginning D_need_all D_common_in
  have D_are_alike_in := ok_are_alike_in (P := P) (w := w) (base := base) M F_are_alike_in g_are_alike_in D_least
  have D_need_joins := ok_need_joins (P := P) (w := w) (base := base) M F_need_joins g_need_joins D_need_four D_are_alike_in
  have D_parts_in := ok_parts_in (P := P) (w := w) (base := base) M F_parts_in g_parts_in D_common_in D_behind_in
  have D_four_parts := ok_four_parts (P := P) (w := w) (base := base) M F_four_parts g_four_parts D_need_joins D_parts_in
  have D_every_letter := ok_every_letter (P := P) (w := w) (base := base) M F_every_letter g_every_letter
  have D_sets_in := ok_sets_in (P := P) (w := w) (base := base) M F_sets_in g_sets_in D_is_free
  have D_free_sets := ok_free_sets (P := P) (w := w) (base := base) M F_free_sets g_free_sets D_need_letters D_sets_in D_every_letter
  have D_is_some := ok_is_some (P := P) (w := w) (base := base) M F_is_some g_is_some D_is_tuple_of D_is_whole
  have D_is_free_in := ok_is_free_in (P := P) (w := w) (base := base) M F_is_free_in g_is_free_in D_is_some D_is_free
  have D_is_free_set := ok_is_free_set (P := P) (w := w) (base := base) M F_is_free_set g_is_free_set D_need_letters D_is_free_in
  have D_joined_pile := ok_joined_pile (P := P) (w := w) (base := base) M F_joined_pile g_joined_pile D_need_letters D_need_pile D_least
  have D_above_in := ok_above_in (P := P) (w := w) (base := base) M F_above_in g_above_in D_rests_in D_apart_in D_least
  have D_above_all_in := ok_above_all_in (P := P) (w := w) (base := base) M F_above_all_in g_above_all_in D_above_in
  have D_pile_above := ok_pile_above (P := P) (w := w) (base := base) M F_pile_above g_pile_above D_need_all D_above_all_in
  have D__law_above_right := ok__law_above_right (P := P) (w := w) (base := base) M F__law_above_right g__law_above_right D__law_letters D__law_roll D_free_sets D__law_like D_pile_above D__law_some D_is_free_set D_above_bar D_common_beginning D_barred_behind D_joined_pile D_are_apart D_four_parts D_are_four_parts
  have D_kept_places := ok_kept_places (P := P) (w := w) (base := base) M F_kept_places g_kept_places
  have D_next_bits := ok_next_bits (P := P) (w := w) (base := base) M F_next_bits g_next_bits
  have D_tied_below := ok_tied_below (P := P) (w := w) (base := base) M F_tied_below g_tied_below D_is_free
  have D_levels_in := ok_levels_in (P := P) (w := w) (base := base) M F_levels_in g_levels_in D_tied_below D_next_bits
  have D_beginnings_in := ok_beginnings_in (P := P) (w := w) (base := base) M F_beginnings_in g_beginnings_in D_levels_in D_kept_places
  have D_need_one := ok_need_one (P := P) (w := w) (base := base) M F_need_one g_need_one D_need_letters D_need_pile
  have D_turned_round := ok_turned_round (P := P) (w := w) (base := base) M F_turned_round g_turned_round D_least
  have D_endings_of := ok_endings_of (P := P) (w := w) (base := base) M F_endings_of g_endings_of D_need_one D_beginnings_in D_turned_round
  have D_is_beginning := ok_is_beginning (P := P) (w := w) (base := base) M F_is_beginning g_is_beginning D_need_two D_behind_in
  have D_ahead_in := ok_ahead_in (P := P) (w := w) (base := base) M F_ahead_in g_ahead_in D_behind_in D_turned_round
  have D_is_ending := ok_is_ending (P := P) (w := w) (base := base) M F_is_ending g_is_ending D_need_two D_ahead_in
  have D_tops_in := ok_tops_in (P := P) (w := w) (base := base) M F_tops_in g_tops_in D_is_free
  have D_is_pointed := ok_is_pointed (P := P) (w := w) (base := base) M F_is_pointed g_is_pointed D_need_letters D_need_pile D_tops_in
  have D_left_ahead := ok_left_ahead (P := P) (w := w) (base := base) M F_left_ahead g_left_ahead D_need_two D_ahead_in
  have D_left_behind := ok_left_behind (P := P) (w := w) (base := base) M F_left_behind g_left_behind D_need_two D_behind_in
  have D_sign_in := ok_sign_in (P := P) (w := w) (base := base) M F_sign_in g_sign_in D_sets_in
  have D_counts_in := ok_counts_in (P := P) (w := w) (base := base) M F_counts_in g_counts_in D_sign_in D_every_letter
  have D_need_whole := ok_need_whole (P := P) (w := w) (base := base) M F_need_whole g_need_whole D_is_whole
  have D_pile_counts := ok_pile_counts (P := P) (w := w) (base := base) M F_pile_counts g_pile_counts D_need_letters D_need_whole D_counts_in
  have D_piles_of_length := ok_piles_of_length (P := P) (w := w) (base := base) M F_piles_of_length g_piles_of_length D_need_letters D_need_whole D_counts_in D_step_in
  have D__law_counts_right := ok__law_counts_right (P := P) (w := w) (base := base) M F__law_counts_right g__law_counts_right D__law_letters D__law_roll D_piles_of_length D_pile_counts D__law_some D_is_beginning D_is_ending D__law_like D_left_behind D_left_ahead D_endings_of D_is_pointed
  have D__law_cup := ok__law_cup (P := P) (w := w) (base := base) M F__law_cup g__law_cup
  have D__law_all_sets := ok__law_all_sets (P := P) (w := w) (base := base) M F__law_all_sets g__law_all_sets
  have D_beginnings_of := ok_beginnings_of (P := P) (w := w) (base := base) M F_beginnings_of g_beginnings_of D_need_one D_beginnings_in
  have D__law_signs_right := ok__law_signs_right (P := P) (w := w) (base := base) M F__law_signs_right g__law_signs_right D__law_letters D__law_some D_piles_of_length D__law_roll D_beginnings_of D_is_free_set D_pile_above D__law_like D__law_all_sets
  have D_greatest_free_sets := ok_greatest_free_sets (P := P) (w := w) (base := base) M F_greatest_free_sets g_greatest_free_sets D_need_letters D_sets_in D_every_letter D_is_free
  have D_by_top := ok_by_top (P := P) (w := w) (base := base) M F_by_top g_by_top D_is_free D_sign_in D_counts_in
  have D_pointed_counts := ok_pointed_counts (P := P) (w := w) (base := base) M F_pointed_counts g_pointed_counts D_need_letters D_need_whole D_by_top
  have D__law_written_right := ok__law_written_right (P := P) (w := w) (base := base) M F__law_written_right g__law_written_right D_pile_counts D_above_bar D_pile_above D_beginnings_of D_greatest_free_sets D_four_parts D_piles_of_length D_is_beginning D_common_beginning D_is_pointed D_endings_of D_pointed_counts D__law_like
  exact fn_law (P := P) (w := w) (base := base) M F_law g_law D__law_written_right D__law_cup D__law_counts_right D__law_signs_right D__law_above_right
end LW
theorem LW.spE_law {K : PySem.W.Frag} {f : Ev.FW} {H : L2.Hp} {a : PySem.Addr} {ns : List Int} (hS : L2.SqL K H a (ns.map L2.V.int)) (e : f [.s (ns.map PySem.PyData.int)] [] = some (.d (.bool true), [])) : Ev.spE K f [.ref a] H (fun v _ => v = .bl true) fun _ _ _ => False := by
  have w : Ev.RW K ⟨[], []⟩ H (.ref a) (.s (ns.map PySem.PyData.int)) := by
    refine ⟨a, ns.map L2.V.int, rfl, ?_, Ev.R0s.ints ns⟩
    rcases hS with h | h
    · exact .inl ⟨h, (by simp), (by simp)⟩
    · exact .inr fun H' => .inr h
  have rs : Ev.RS K ⟨[], []⟩ H [] := ⟨rfl, fun n m a h => by simp at h, fun n c h => by simp at h, fun a h => by simp at h⟩
  refine ⟨⟨[], []⟩, [], [.s (ns.map PySem.PyData.int)], .d (.bool true), [], rs, .cons w .nil, e, fun g' H' x rs v rv => ?_⟩
  cases (rv : Ev.R0 K g' H' v (.bool true))
  rfl
theorem LW.pure_law (ns : List Int) (hl : ns.length ≤ 63) : LW.f_law [.s (ns.map PySem.PyData.int)] [] = some (.d (.bool true), []) := PL.law_s ns hl
open PySem PySem.W PySem.Calls PyProof.Rows
theorem PySem.Challenge.cw_letterspiled_k85_whole_beginnings_and_co_holds : PySem.Challenge.rw_letterspiled_k85_whole_beginnings_and_co.Holds := by
  w_on; o_law
  refine HandSHeadRun.head_any (r := OpenLaw.row PySem.Challenge.rw_letterspiled_k85_whole_beginnings_and_co) (q := view (OpenLaw.row PySem.Challenge.rw_letterspiled_k85_whole_beginnings_and_co).prog [105]) (H := LW.hk) (ob := LW.ob) (M := 6000) (loose := LW.loose) (d := HandSHeadRun.topDef (OpenLaw.row PySem.Challenge.rw_letterspiled_k85_whole_beginnings_and_co).prog 105) (kwd := []) LW.ob_eq
    (by kernel_rfl) (fun s => by kernel_rfl) LW.run (by kernel_rfl) (by kernel_rfl) (by kernel_rfl) (by rfl) (by first | assumption | decide +kernel) (by decide +kernel) ⟨rfl, rfl, rfl, rfl, rfl, by decide +kernel⟩ ?hw ?hc
  case hw => w_witness2
  case hc =>
    refine L2.walk_ofE (l := PySem.Challenge.rw_letterspiled_k85_whole_beginnings_and_co) (n := 63) (k := 10) (x := "script") (CX := L2.CX0) rfl (by decide) (by kernel_rfl) ⟨rfl, by decide, by decide⟩ ?F (fun _ _ _ _ z => z)
    intro w mg fa h Y G hmg0
    obtain ⟨K, KX, c⟩ := Y
    have hmg : mg ("law" : PySem.Str) = some (.ref fa) := by
      have e : (HandSHeadRun.topDef (OpenLaw.row PySem.Challenge.rw_letterspiled_k85_whole_beginnings_and_co).prog 105).name = ("law" : PySem.Str) := by kernel_rfl
      rw [← e]
      exact hmg0
    obtain ⟨fd, hb, hF⟩ := LW.facts (P := (PySem.Challenge.rw_letterspiled_k85_whole_beginnings_and_co).prog) (w := w) KX G hmg c
    exact ⟨K, fd, Ev.spE K LW.f_law, KX, hb, fun H a ns hl _ hS => LW.spE_law hS (LW.pure_law ns hl), hF⟩
