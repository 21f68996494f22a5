import PyProof.Rows.All
import Wide.All
import OpenK.AllK
import Wide.FinOn
import HandS.ForMost
import HandS.Evl
import HandS.Lambda
import KE.KNest
import HandS.Style
import HandS.TupAny
import HandS.IsInst
import HandS.SortInts
import HandS.Wide
import HandS.Deep
import HandS.Conv
import HandS.Iter
import KE.KTupSum
import HandS.Codes
import HandS.TupLe
import HandS.SetFor
import HandS.Strs
import HandS.Zip
import HandS.SortRule
import KE.SortKeyHeap
import KE.KSortKey
import HandS.SortKw
import HandS.Nested
import HandS.EndTab
import KE.KNestM
import PySem.Challenge.RW_daysworn_k17_whole_known_rooms_and_hands
set_option Elab.async false
set_option linter.all false
set_option maxRecDepth 100000
set_option maxHeartbeats 4000000
/-! DL, the data layer: what a piece of syntax computes, as a plain function on data (PyData). Part a: data on the heap, the state's relation. -/
namespace DL
open PySem PySem.Spec PyProof.Rows L2

/-! ### heaps -/
theorem same_new {H : Hp} {p : Addr} {o : HO} (h : H p = none) : Same H (upd H p o) := fun b x e => by
  rw [upd_ne (ne_of_none e h)]
  exact e
theorem same_mut {H H' : Hp} {p : Addr} {o : HO} (s : Same H H') (h : H p = none) : Same H (upd H' p o) := fun b x e => by
  rw [upd_ne (ne_of_none e h)]
  exact s b x e
theorem same_upd {F H : Hp} {p : Addr} {o : HO} (s : Same F H) (h : H p = some o) : Same (upd F p o) H := fun b x e => by
  by_cases hb : b = p
  · subst hb; rw [upd_same] at e; rw [h, ← e]
  · rw [upd_ne hb] at e
    exact s b x e
theorem same_both {F H : Hp} {p : Addr} {o : HO} (s : Same F H) : Same (upd F p o) (upd H p o) := fun b x e => by
  by_cases hb : b = p
  · subst hb; rw [upd_same] at e ⊢; exact e
  · rw [upd_ne hb] at e ⊢
    exact s b x e
theorem same_none {F H : Hp} {p : Addr} (s : Same F H) (h : H p = none) : F p = none := s.free h
theorem sqt_mono {K : PySem.W.Frag} {H H' : Hp} {a : Addr} {xs : List V} (e : Same H H') (h : SqT K H a xs) : SqT K H' a xs := by
  rcases h with (h | ⟨o, h⟩) | h
  · exact .inl (.inl (e _ _ h))
  · exact .inl (.inr ⟨o, e _ _ h⟩)
  · exact .inr h

/-! ### data on the heap -/
def keyD : Key → PyData
  | .inl i => .int i
  | .inr x => .str x
mutual
inductive Rp (K : PySem.W.Frag) (F : Hp) : V → PyData → Prop
  | non : Rp K F .non .none
  | bl (b : Bool) : Rp K F (.bl b) (.bool b)
  | int (i : Int) : Rp K F (.int i) (.int i)
  | str (x : Str) : Rp K F (.str x) (.str x)
  | lst {a : Addr} {xs : List V} {ds : List PyData} : F a = some (.lst xs) → RpAll K F xs ds → Rp K F (.ref a) (.list ds)
  | tup {a : Addr} {xs : List V} {ds : List PyData} : SqT K F a xs → RpAll K F xs ds → Rp K F (.ref a) (.tuple ds)
  | dK {a : Addr} {kvs : List (Key × V)} {ds : List (PyData × PyData)} : F a = some (.dK kvs) → (kvs.map (·.1)).Nodup → RpKv K F kvs ds → Rp K F (.ref a) (.dict ds)
  | dT {a : Addr} {kvs : List (List Key × V)} {ds : List (PyData × PyData)} : F a = some (.dT kvs) → (kvs.map (·.1)).Nodup → RpTv K F kvs ds → Rp K F (.ref a) (.dict ds)
inductive RpAll (K : PySem.W.Frag) (F : Hp) : List V → List PyData → Prop
  | nil : RpAll K F [] []
  | cons {v : V} {vs : List V} {d : PyData} {ds : List PyData} : Rp K F v d → RpAll K F vs ds → RpAll K F (v :: vs) (d :: ds)
inductive RpKv (K : PySem.W.Frag) (F : Hp) : List (Key × V) → List (PyData × PyData) → Prop
  | nil : RpKv K F [] []
  | cons {k : Key} {v : V} {vs : List (Key × V)} {d : PyData} {ds : List (PyData × PyData)} : Rp K F v d → RpKv K F vs ds → RpKv K F ((k, v) :: vs) ((keyD k, d) :: ds)
inductive RpTv (K : PySem.W.Frag) (F : Hp) : List (List Key × V) → List (PyData × PyData) → Prop
  | nil : RpTv K F [] []
  | cons {k : List Key} {v : V} {vs : List (List Key × V)} {d : PyData} {ds : List (PyData × PyData)} : Rp K F v d → RpTv K F vs ds → RpTv K F ((k, v) :: vs) ((.tuple (k.map keyD), d) :: ds)
end
mutual
theorem Rp.mono {K : PySem.W.Frag} {F F' : Hp} (s : Same F F') : ∀ {v : V} {d : PyData}, Rp K F v d → Rp K F' v d
  | _, _, .non => .non
  | _, _, .bl b => .bl b
  | _, _, .int i => .int i
  | _, _, .str x => .str x
  | _, _, .lst h r => .lst (s _ _ h) (RpAll.mono s r)
  | _, _, .tup h r => .tup (sqt_mono s h) (RpAll.mono s r)
  | _, _, .dK h n r => .dK (s _ _ h) n (RpKv.mono s r)
  | _, _, .dT h n r => .dT (s _ _ h) n (RpTv.mono s r)
theorem RpAll.mono {K : PySem.W.Frag} {F F' : Hp} (s : Same F F') : ∀ {v : List V} {d : List PyData}, RpAll K F v d → RpAll K F' v d
  | _, _, .nil => .nil
  | _, _, .cons h r => .cons (Rp.mono s h) (RpAll.mono s r)
theorem RpKv.mono {K : PySem.W.Frag} {F F' : Hp} (s : Same F F') : ∀ {v : List (Key × V)} {d : List (PyData × PyData)}, RpKv K F v d → RpKv K F' v d
  | _, _, .nil => .nil
  | _, _, .cons h r => .cons (Rp.mono s h) (RpKv.mono s r)
theorem RpTv.mono {K : PySem.W.Frag} {F F' : Hp} (s : Same F F') : ∀ {v : List (List Key × V)} {d : List (PyData × PyData)}, RpTv K F v d → RpTv K F' v d
  | _, _, .nil => .nil
  | _, _, .cons h r => .cons (Rp.mono s h) (RpTv.mono s r)
end
section
variable {K : PySem.W.Frag} {F : Hp}
theorem Rp.non_inv {v : V} (h : Rp K F v .none) : v = .non := by cases h; rfl
theorem Rp.bl_inv {v : V} {b : Bool} (h : Rp K F v (.bool b)) : v = .bl b := by cases h; rfl
theorem Rp.int_inv {v : V} {i : Int} (h : Rp K F v (.int i)) : v = .int i := by cases h; rfl
theorem Rp.str_inv {v : V} {x : Str} (h : Rp K F v (.str x)) : v = .str x := by cases h; rfl
theorem Rp.lst_inv {v : V} {ds : List PyData} (h : Rp K F v (.list ds)) : ∃ a xs, v = .ref a ∧ F a = some (.lst xs) ∧ RpAll K F xs ds := by
  cases h with
  | lst h r => exact ⟨_, _, rfl, h, r⟩
theorem Rp.tup_inv {v : V} {ds : List PyData} (h : Rp K F v (.tuple ds)) : ∃ a xs, v = .ref a ∧ SqT K F a xs ∧ RpAll K F xs ds := by
  cases h with
  | tup h r => exact ⟨_, _, rfl, h, r⟩
theorem RpAll.len : ∀ {xs : List V} {ds : List PyData}, RpAll K F xs ds → xs.length = ds.length
  | _, _, .nil => rfl
  | _, _, .cons _ r => congrArg (· + 1) (RpAll.len r)
theorem RpAll.get : ∀ {xs : List V} {ds : List PyData} {i : Nat} {d : PyData}, RpAll K F xs ds → ds[i]? = some d → ∃ x, xs[i]? = some x ∧ Rp K F x d
  | _, _, _, _, .nil, e => by simp at e
  | _, _, 0, _, .cons h _, e => by simp at e; subst e; exact ⟨_, rfl, h⟩
  | _, _, i + 1, d, .cons _ r, e => by
    obtain ⟨x, h1, h2⟩ := RpAll.get (i := i) (d := d) r (by simpa using e)
    exact ⟨x, by simpa using h1, h2⟩
theorem RpAll.get' : ∀ {xs : List V} {ds : List PyData} {i : Nat} {x : V}, RpAll K F xs ds → xs[i]? = some x → ∃ d, ds[i]? = some d ∧ Rp K F x d
  | _, _, _, _, .nil, e => by simp at e
  | _, _, 0, _, .cons h _, e => by simp at e; subst e; exact ⟨_, rfl, h⟩
  | _, _, i + 1, d, .cons _ r, e => by
    obtain ⟨x, h1, h2⟩ := RpAll.get' (i := i) (x := d) r (by simpa using e)
    exact ⟨x, by simpa using h1, h2⟩
theorem RpAll.append : ∀ {xs ys : List V} {ds es : List PyData}, RpAll K F xs ds → RpAll K F ys es → RpAll K F (xs ++ ys) (ds ++ es)
  | _, _, _, _, .nil, s => s
  | _, _, _, _, .cons h r, s => .cons h (RpAll.append r s)
theorem RpAll.one {x : V} {d : PyData} (h : Rp K F x d) : RpAll K F [x] [d] := .cons h .nil
theorem RpAll.set {x : V} {d : PyData} (h : Rp K F x d) : ∀ {xs : List V} {ds : List PyData} (i : Nat), RpAll K F xs ds → RpAll K F (xs.set i x) (ds.set i d)
  | _, _, _, .nil => .nil
  | _, _, 0, .cons _ r => .cons h r
  | _, _, i + 1, .cons q r => .cons q (RpAll.set h i r)
theorem RpAll.take : ∀ {xs : List V} {ds : List PyData} (n : Nat), RpAll K F xs ds → RpAll K F (xs.take n) (ds.take n)
  | _, _, 0, _ => .nil
  | _, _, _ + 1, .nil => .nil
  | _, _, n + 1, .cons h r => .cons h (RpAll.take n r)
theorem RpAll.drop : ∀ {xs : List V} {ds : List PyData} (n : Nat), RpAll K F xs ds → RpAll K F (xs.drop n) (ds.drop n)
  | _, _, 0, r => r
  | _, _, _ + 1, .nil => .nil
  | _, _, n + 1, .cons _ r => RpAll.drop n r
theorem RpAll.dropLast : ∀ {xs : List V} {ds : List PyData}, RpAll K F xs ds → RpAll K F xs.dropLast ds.dropLast
  | _, _, .nil => .nil
  | _, _, .cons _ .nil => .nil
  | _, _, .cons h (.cons h2 r) => .cons h (RpAll.dropLast (.cons h2 r))
theorem RpAll.ints : ∀ (ns : List Int), RpAll K F (ns.map V.int) (ns.map PyData.int)
  | [] => .nil
  | n :: r => .cons (.int n) (RpAll.ints r)
theorem RpAll.ints_inv : ∀ {xs : List V} {ns : List Int}, RpAll K F xs (ns.map PyData.int) → xs = ns.map V.int
  | _, [], .nil => rfl
  | _, n :: r, .cons h t => by rw [h.int_inv, RpAll.ints_inv t]; rfl
theorem RpAll.bls_inv : ∀ {xs : List V} {ns : List Bool}, RpAll K F xs (ns.map PyData.bool) → xs = ns.map V.bl
  | _, [], .nil => rfl
  | _, n :: r, .cons h t => by rw [h.bl_inv, RpAll.bls_inv t]; rfl
theorem RpAll.rep {xs : List V} {ds : List PyData} (r : RpAll K F xs ds) : ∀ k : Nat, RpAll K F (List.replicate k xs).flatten (List.replicate k ds).flatten
  | 0 => .nil
  | k + 1 => by
    rw [List.replicate_succ, List.replicate_succ, List.flatten_cons, List.flatten_cons]
    exact r.append (RpAll.rep r k)
end
/-! without dicts: as the deep comparison of the layer wants it -/
mutual
theorem Rp.dp {K : PySem.W.Frag} {F : Hp} : ∀ {v : V} {d : PyData}, Rp K F v d → d.canLay0 = true → Dp K F v d
  | _, _, .non, _ => .non
  | _, _, .bl b, _ => .bl b
  | _, _, .int i, _ => .int i
  | _, _, .str x, _ => .str x
  | _, _, .lst h r, c => .lst (SqL.of h) (RpAll.dp r (by simpa [PyData.canLay0] using c))
  | _, _, .tup h r, c => .tup h (RpAll.dp r (by simpa [PyData.canLay0] using c))
  | _, _, .dK _ _ _, c => by simp [PyData.canLay0] at c
  | _, _, .dT _ _ _, c => by simp [PyData.canLay0] at c
theorem RpAll.dp {K : PySem.W.Frag} {F : Hp} : ∀ {v : List V} {d : List PyData}, RpAll K F v d → PyData.canLayAll0 d = true → DpAll K F v d
  | _, _, .nil, _ => .nil
  | _, _, .cons h r, c => by
    simp only [PyData.canLayAll0, Bool.and_eq_true] at c
    exact .cons (Rp.dp h c.1) (RpAll.dp r c.2)
end
/-- read now: a datum, or a list that is still one's own -/
def Lp (K : PySem.W.Frag) (F H : Hp) (v : V) (d : PyData) : Prop := Rp K F v d ∨ ∃ a xs ds, d = .list ds ∧ v = .ref a ∧ H a = some (.lst xs) ∧ RpAll K F xs ds
section
variable {K : PySem.W.Frag} {F H F' H' : Hp} {v : V} {d : PyData}
theorem Lp.mono (s : Same F F') (s' : Same H H') (h : Lp K F H v d) : Lp K F' H' v d := by
  rcases h with h | ⟨a, xs, ds, e, e2, h, r⟩
  · exact .inl (h.mono s)
  · exact .inr ⟨a, xs, ds, e, e2, s' _ _ h, r.mono s⟩
theorem Lp.weak (s : Same F H) (h : Lp K F H v d) : Rp K H v d := by
  rcases h with h | ⟨a, xs, ds, rfl, rfl, h, r⟩
  · exact h.mono s
  · exact .lst h (r.mono s)
theorem Lp.int_inv {i : Int} (h : Lp K F H v (.int i)) : v = .int i := by
  rcases h with h | ⟨a, xs, ds, e, _⟩
  · exact h.int_inv
  · cases e
theorem Lp.bl_inv {b : Bool} (h : Lp K F H v (.bool b)) : v = .bl b := by
  rcases h with h | ⟨a, xs, ds, e, _⟩
  · exact h.bl_inv
  · cases e
theorem Lp.str_inv {x : Str} (h : Lp K F H v (.str x)) : v = .str x := by
  rcases h with h | ⟨a, xs, ds, e, _⟩
  · exact h.str_inv
  · cases e
theorem Lp.non_inv (h : Lp K F H v .none) : v = .non := by
  rcases h with h | ⟨a, xs, ds, e, _⟩
  · exact h.non_inv
  · cases e
theorem Lp.tup_inv {ds : List PyData} (h : Lp K F H v (.tuple ds)) : ∃ a xs, v = .ref a ∧ SqT K F a xs ∧ RpAll K F xs ds := by
  rcases h with h | ⟨a, xs, ds, e, _⟩
  · exact h.tup_inv
  · cases e
theorem Lp.lst_inv (s : Same F H) {ds : List PyData} (h : Lp K F H v (.list ds)) : ∃ a xs, v = .ref a ∧ H a = some (.lst xs) ∧ RpAll K F xs ds := by
  rcases h with h | ⟨a, xs, ds, e, e2, h, r⟩
  · obtain ⟨a, xs, e, h, r⟩ := h.lst_inv
    exact ⟨a, xs, e, s _ _ h, r⟩
  · cases e
    exact ⟨a, xs, e2, h, r⟩
end

/-! ### the state: frozen part F, others' part B, the draws' dict W -/
structure Zn (F B H : Hp) : Prop where
  ff : Same F H
  bb : Same B H
  dj : ∀ a o, B a = some o → F a = none
/-- what is handed on and changes: the draws; an object with a list -/
inductive Tag where
  | draws (ws : List Int)
  | obj (ls : PyData) (many : Int)
/-- a digit's hour: none, 0, 1, .. -/
def digV (d : Nat) : V := if d = 0 then .non else .int ((d : Int) - 1)
/-- the list of hours that a number tells: digits to the base 32, the last one first, ended by 1 -/
def hoursV : Nat → Nat → List V
  | 0, _ => []
  | f + 1, n => if n ≤ 1 then [] else digV (n % 32) :: hoursV f (n / 32)
/-- dr: the dict of the draws at a, its list at l, and, where the program makes lambdas, the maker's table of code objects; tb: an object at o of the class C, its list at h; tab: the table alone -/
inductive Wl where
  | dr (a l : Addr) (ws : List Int) (t : Option (Addr × Str))
  | tb (h o C : Addr) (dx : Addr) (fs : List (Str × V)) (vl : V) (ls : PyData) (many : Int)
  | tab (T : Addr × Str)
def drOb (l : Addr) (n : Nat) : HO := .dK [(.inr ("draws" : Str), .ref l), (.inr ("at" : Str), .int (n : Int))]
namespace Wl
/-- the addresses that change -/
def ch : Wl → Addr → Prop
  | dr a _ _ t, x => a = x ∨ ∃ T, t = some T ∧ T.1 = x
  | tb h _ _ _ _ _ _ _, x => h = x
  | tab T, x => T.1 = x
/-- by which it is handed on -/
def self : Wl → Addr
  | dr a _ _ _ => a
  | tb _ o _ _ _ _ _ _ => o
  | tab T => T.1
/-- what stands at those that change -/
def now : Wl → Hp → Nat → Prop
  | dr a l _ t, H, n => H a = some (drOb l n) ∧ ∀ T, t = some T → LamX.TabS H T.1 T.2
  | tb h _ _ _ _ _ _ _, H, n => H h = some (.lst (hoursV 64 n))
  | tab T, H, _ => LamX.TabS H T.1 T.2
/-- what is frozen of it -/
def fro : Wl → Hp → Prop
  | dr _ l ws _, F => F l = some (.lst (ws.map V.int))
  | tb h o C dx fs vl ls many, F => F o = some (.ins C dx fs) ∧ fs = [(("lessons" : Str), vl), (("many" : Str), .int many), (("hours" : Str), .ref h)]
  | tab _, _ => True
def tag : Wl → Tag
  | dr _ _ ws _ => .draws ws
  | tb _ _ _ _ _ _ ls many => .obj ls many
  | tab _ => .obj .none 0
/-- its table is this one -/
def tok : Wl → Addr × Str → Prop
  | dr _ _ _ t, T => t = some T
  | _, _ => True
theorem mono : ∀ (w : Wl) {F F' : Hp}, Same F F' → w.fro F → w.fro F'
  | dr _ _ _ _, _, _, s, h => s _ _ h
  | tb _ _ _ _ _ _ _ _, _, _, s, h => ⟨s _ _ h.1, h.2⟩
  | tab _, _, _, _, h => h
theorem own : ∀ (w : Wl) {F : Hp}, w.fro F → w.ch w.self ∨ ∃ o, F w.self = some o
  | dr _ _ _ _, _, _ => .inl (.inl rfl)
  | tb _ _ _ _ _ _ _ _, _, h => .inr ⟨_, h.1⟩
  | tab _, _, _ => .inl rfl
theorem tag_draws {w : Wl} {ws : List Int} (h : w.tag = .draws ws) : ∃ a l t, w = dr a l ws t := by
  cases w with
  | dr a l ws' t =>
    cases h
    exact ⟨a, l, t, rfl⟩
  | tb _ _ _ _ _ _ _ _ => cases h
  | tab _ => cases h
/-- there is something at them -/
theorem there {w : Wl} {H : Hp} {n : Nat} {x : Addr} (h : w.now H n) (c : w.ch x) : ∃ o, H x = some o := by
  cases w with
  | dr a l ws t =>
    rcases c with rfl | ⟨T, e, rfl⟩
    · exact ⟨_, h.1⟩
    · obtain ⟨ps, q, _⟩ := h.2 T e
      exact ⟨_, q⟩
  | tb _ _ _ _ _ _ _ _ =>
    cases c
    exact ⟨_, h⟩
  | tab T =>
    cases c
    obtain ⟨ps, q, _⟩ := h
    exact ⟨_, q⟩
/-- a code object -/
def IsCode (o : HO) : Prop := ∃ c q, o = LamX.CodeO c q
theorem not_code {o : HO} (h : ∀ g, o ≠ .ext g) : ¬ IsCode o := fun ⟨c, q, e⟩ => by
  unfold LamX.CodeO at e
  exact h _ e
theorem lst_code {H : Hp} {p : Addr} {xs : List V} (h : H p = some (.lst xs)) : ∀ o, H p = some o → ¬ IsCode o := fun o e => by
  rw [h] at e
  cases e
  exact not_code fun g z => by cases z
theorem dK_code {H : Hp} {p : Addr} {xs : List (Key × V)} (h : H p = some (.dK xs)) : ∀ o, H p = some o → ¬ IsCode o := fun o e => by
  rw [h] at e
  cases e
  exact not_code fun g z => by cases z
theorem dT_code {H : Hp} {p : Addr} {xs : List (List Key × V)} (h : H p = some (.dT xs)) : ∀ o, H p = some o → ¬ IsCode o := fun o e => by
  rw [h] at e
  cases e
  exact not_code fun g z => by cases z
theorem tab_keep {H H' : Hp} {T : Addr × Str} (h : LamX.TabS H T.1 T.2) (k : ∀ o, H T.1 = some o → H' T.1 = some o) (c : ∀ b o, H b = some o → IsCode o → H' b = some o) : LamX.TabS H' T.1 T.2 := by
  obtain ⟨ps, h1, h2, h3⟩ := h
  refine ⟨ps, k _ h1, h2, fun pos cv hc => ?_⟩
  obtain ⟨x, e1, e2⟩ := h3 pos cv hc
  exact ⟨x, e1, c _ _ e2 ⟨_, _, rfl⟩⟩
theorem keep {w : Wl} {H H' : Hp} {n : Nat} (h : w.now H n) (k : ∀ b o, H b = some o → w.ch b → H' b = some o) (c : ∀ b o, H b = some o → IsCode o → H' b = some o) : w.now H' n := by
  cases w with
  | dr a l ws t => exact ⟨k _ _ h.1 (.inl rfl), fun T e => tab_keep (h.2 T e) (fun o q => k _ o q (.inr ⟨T, e, rfl⟩)) c⟩
  | tb _ _ _ _ _ _ _ _ => exact k _ _ h rfl
  | tab T => exact tab_keep h (fun o q => k _ o q rfl) c
/-- something that is neither of these nor a code object is changed -/
theorem upd_now {w : Wl} {H : Hp} {n : Nat} {p : Addr} {u : HO} (h : w.now H n) (k : ¬ w.ch p) (c : ∀ o, H p = some o → ¬ IsCode o) : w.now (upd H p u) n := keep h (fun b o e q => by
  rw [upd_ne (show b ≠ p from fun z => k (z ▸ q))]
  exact e) fun b o e q => by
  rw [upd_ne (show b ≠ p from fun z => c o (z ▸ e) q)]
  exact e
theorem same {w : Wl} {H H' : Hp} {n : Nat} (h : w.now H n) (s : Same H H') : w.now H' n := keep h (fun b o e _ => s b o e) fun b o e _ => s b o e
end Wl
/-- this is not what W changes -/
def Nch (W : Option Wl) (x : Addr) : Prop := ∀ w, W = some w → ¬ w.ch x
def WOk (F B H : Hp) (n : Nat) : Option Wl → Prop
  | none => True
  | some w => w.now H n ∧ w.fro F ∧ ∀ x, w.ch x → F x = none ∧ B x = none
inductive En where
  | val (d : PyData)
  | own (ds : List PyData)
  | dct (kvs : List (PyData × PyData))
  | wdr (t : Tag)
  | scr (ns : List Int)
  | tabv (d : PyData)
/-- the table of code objects of rooms_for, and its lambda's name -/
def lamQ : Str := (("rooms_for" : Str) ++ ".<locals>.") ++ "<lambda>"
def tabK (K : PySem.W.Frag) : Addr × Str := match PySem.W.tabIn K "rooms_for" with
  | some (_, P) => (P, lamQ)
  | none => (0, lamQ)
abbrev Env := List (Option En)
def EnOk (K : PySem.W.Frag) (F B H : Hp) (W : Option Wl) : En → V → Prop
  | .val d, v => Rp K F v d
  | .own ds, v => ∃ a xs, v = .ref a ∧ H a = some (.lst xs) ∧ RpAll K F xs ds ∧ F a = none ∧ (B a = none ∧ Nch W a)
  | .dct kvs, v => ∃ a, v = .ref a ∧ F a = none ∧ (B a = none ∧ Nch W a) ∧ ((∃ xs, H a = some (.dK xs) ∧ (xs.map (·.1)).Nodup ∧ RpKv K F xs kvs) ∨ ∃ xs ks, kvs = (.none, .none) :: ks ∧ H a = some (.dT xs) ∧ (xs.map (·.1)).Nodup ∧ RpTv K F xs ks)
  | .wdr t, v => ∃ w, W = some w ∧ w.tag = t ∧ v = .ref w.self ∧ w.tok (tabK K)
  | .scr ns, v => ∃ a, v = .ref a ∧ SqL K F a (ns.map V.int)
  | .tabv d, v => Rp K F v d ∧ W = some (.tab (tabK K))
def En.mut : En → Bool
  | .own _ => true
  | .dct _ => true
  | .wdr _ => true
  | _ => false
structure Rl (K : PySem.W.Frag) (F B : Hp) (W : Option Wl) (σ : L2.St) (H : Hp) (env : Env) (n : Nat) : Prop where
  zn : Zn F B H
  wo : WOk F B H n W
  sl : ∀ (i : Nat) (e : En), env[i]? = some (some e) → ∃ v, σ[i]? = some (some v) ∧ EnOk K F B H W e v
  ap : ∀ (i j : Nat) (e e' : En) (v : V), i ≠ j → env[i]? = some (some e) → env[j]? = some (some e') → e.mut = true → e'.mut = true → σ[i]? = some (some v) → σ[j]? ≠ some (some v)
  le : env.length = σ.length
/-- the frozen part grows, the heap keeps all, what was one's own stays so -/
structure Gr (F H F' H' : Hp) : Prop where
  f : Same F F'
  h : Same H H'
  z : Same F' H'
  o : ∀ a x, H a = some x → F a = none → F' a = none
section
variable {K : PySem.W.Frag} {F B H F' H' F2 H2 : Hp} {W : Option Wl} {σ : L2.St} {env : Env} {n : Nat} {p : Addr} {u : HO}
theorem Gr.refl (s : Same F H) : Gr F H F H := ⟨.refl _, .refl _, s, fun _ _ _ h => h⟩
theorem Gr.trans (a : Gr F H F' H') (b : Gr F' H' F2 H2) : Gr F H F2 H2 := ⟨a.f.trans b.f, a.h.trans b.h, b.z, fun x y e n => b.o x y (a.h _ _ e) (a.o x y e n)⟩
theorem Gr.new (s : Same F H) (h : H p = none) : Gr F H (upd F p u) (upd H p u) := by
  refine ⟨same_new (same_none s h), same_new h, same_both s, fun a x e n => ?_⟩
  rw [upd_ne (ne_of_none e h)]
  exact n
/-- a new thing that stays one's own -/
theorem Gr.mine (s : Same F H) (h : H p = none) : Gr F H F (upd H p u) := ⟨.refl _, same_new h, s.trans (same_new h), fun _ _ _ n => n⟩
theorem EnOk.gr {e : En} {v : V} (g : Gr F H F' H') (h : EnOk K F B H W e v) : EnOk K F' B H' W e v := by
  cases e with
  | val d => exact Rp.mono g.f h
  | own ds =>
    obtain ⟨a, xs, e, h, r, f, b⟩ := h
    exact ⟨a, xs, e, g.h _ _ h, r.mono g.f, g.o _ _ h f, b⟩
  | dct kvs =>
    obtain ⟨a, e, f, b, h⟩ := h
    rcases h with ⟨xs, h, n, r⟩ | ⟨xs, ks, ek, h, n, r⟩
    · exact ⟨a, e, g.o _ _ h f, b, .inl ⟨xs, g.h _ _ h, n, r.mono g.f⟩⟩
    · exact ⟨a, e, g.o _ _ h f, b, .inr ⟨xs, ks, ek, g.h _ _ h, n, r.mono g.f⟩⟩
  | wdr ws => exact h
  | scr ns =>
    obtain ⟨a, e, h⟩ := h
    exact ⟨a, e, g.f.seq h⟩
  | tabv d => exact ⟨Rp.mono g.f h.1, h.2⟩
theorem WOk.gr (g : Gr F H F' H') (h : WOk F B H n W) : WOk F' B H' n W := by
  cases W with
  | none => trivial
  | some w =>
    obtain ⟨h1, h2, h3⟩ := h
    refine ⟨Wl.same h1 g.h, w.mono g.f h2, fun x c => ?_⟩
    obtain ⟨o, e⟩ := Wl.there h1 c
    exact ⟨g.o _ _ e (h3 x c).1, (h3 x c).2⟩
theorem Zn.gr (g : Gr F H F' H') (h : Zn F B H) : Zn F' B H' := ⟨g.z, h.bb.trans g.h, fun a o e => g.o a o (h.bb _ _ e) (h.dj a o e)⟩
theorem Rl.gr (g : Gr F H F' H') (r : Rl K F B W σ H env n) : Rl K F' B W σ H' env n :=
  ⟨r.zn.gr g, r.wo.gr g, fun i e h => let ⟨v, h1, h2⟩ := r.sl i e h; ⟨v, h1, h2.gr g⟩, r.ap, r.le⟩
end
end DL

/-! DL, part b: denotations, judgements, expressions. -/
namespace DL
open PySem PySem.Spec PyProof.Rows L2

/-! ### denotations -/
/-- how many draws are taken, handed on -/
abbrev OM (α : Type) := Nat → Option (α × Nat)
def ret {α : Type} (a : α) : OM α := fun n => some (a, n)
def fail {α : Type} : OM α := fun _ => none
def lift {α : Type} (o : Option α) : OM α := fun n => match o with
  | none => none
  | some a => some (a, n)
def bnd {α β : Type} (m : OM α) (f : α → OM β) : OM β := fun n => match m n with
  | none => none
  | some (a, n') => f a n'
abbrev DM := Env → OM PyData
abbrev TM := Env → OM Bool
abbrev AM := Env → OM (List PyData)
theorem bnd_some {α β : Type} {m : OM α} {f : α → OM β} {n n' : Nat} {b : β} (h : bnd m f n = some (b, n')) : ∃ a n1, m n = some (a, n1) ∧ f a n1 = some (b, n') := by
  unfold bnd at h
  split at h
  · cases h
  · exact ⟨_, _, by assumption, h⟩
theorem lift_some {α : Type} {o : Option α} {n n' : Nat} {b : α} (h : lift o n = some (b, n')) : o = some b ∧ n' = n := by
  unfold lift at h
  split at h
  · cases h
  · cases h
    exact ⟨rfl, rfl⟩
theorem ret_some {α : Type} {a b : α} {n n' : Nat} (h : ret a n = some (b, n')) : b = a ∧ n' = n := by
  cases h
  exact ⟨rfl, rfl⟩

/-! ### readings -/
/-- how an expression leaves the heap: the frozen part grows, all is kept but the draws' dict -/
structure Go (W : Option Wl) (F H F' H' : Hp) : Prop where
  f : Same F F'
  h : ∀ a o, H a = some o → Nch W a → H' a = some o
section
variable {W : Option Wl} {F H F' H' F2 H2 : Hp}
theorem Go.refl : Go W F H F H := ⟨.refl _, fun _ _ h _ => h⟩
theorem Go.trans (a : Go W F H F' H') (b : Go W F' H' F2 H2) : Go W F H F2 H2 := ⟨a.f.trans b.f, fun x y e n => b.h x y (a.h x y e n) n⟩
theorem Go.of (g : Gr F H F' H') : Go W F H F' H' := ⟨g.f, fun a o e _ => g.h a o e⟩
/-- readable now, and not what W changes (or frozen) -/
structure LpW (K : PySem.W.Frag) (F H : Hp) (W : Option Wl) (v : V) (d : PyData) : Prop where
  lp : Lp K F H v d
  nw : ∀ w a, W = some w → v = .ref a → w.ch a → Rp K F v d
theorem LpW.of {K : PySem.W.Frag} {v : V} {d : PyData} (h : Rp K F v d) : LpW K F H W v d := ⟨.inl h, fun _ _ _ _ _ => h⟩
theorem LpW.go {K : PySem.W.Frag} {v : V} {d : PyData} (g : Go W F H F' H') (h : LpW K F H W v d) : LpW K F' H' W v d := by
  refine ⟨?_, fun w a e z c => (h.nw w a e z c).mono g.f⟩
  rcases h.lp with q | ⟨a, xs, ds, e, e2, q, r⟩
  · exact .inl (q.mono g.f)
  · by_cases c : Nch W a
    · exact .inr ⟨a, xs, ds, e, e2, g.h _ _ q c, r.mono g.f⟩
    · have : ∃ w, W = some w ∧ w.ch a := Classical.byContradiction fun z => c fun w e z' => z ⟨w, e, z'⟩
      obtain ⟨w, e', z⟩ := this
      exact .inl ((h.nw w a e' e2 z).mono g.f)
theorem LpW.gr {K : PySem.W.Frag} {v : V} {d : PyData} (g : Gr F H F' H') (h : LpW K F H W v d) : LpW K F' H' W v d := h.go (.of g)
inductive LpWAll (K : PySem.W.Frag) (F H : Hp) (W : Option Wl) : List V → List PyData → Prop
  | nil : LpWAll K F H W [] []
  | cons {v : V} {vs : List V} {d : PyData} {ds : List PyData} : LpW K F H W v d → LpWAll K F H W vs ds → LpWAll K F H W (v :: vs) (d :: ds)
end
section
variable (K : PySem.W.Frag)
def rdE (m : DM) : TE := fun σ H Q => ∃ F B W env n d n', Rl K F B W σ H env n ∧ m env n = some (d, n') ∧ ∀ v F' H', Go W F H F' H' → Rl K F' B W σ H' env n' → Rp K F' v d → Q v H'
/-- a list may be one's own -/
def rdL (m : DM) : TE := fun σ H Q => ∃ F B W env n d n', Rl K F B W σ H env n ∧ m env n = some (d, n') ∧ ∀ v F' H', Go W F H F' H' → Rl K F' B W σ H' env n' → LpW K F' H' W v d → Q v H'
/-- a new list -/
def rdF (m : AM) : TE := fun σ H Q => ∃ F B W env n ds n', Rl K F B W σ H env n ∧ m env n = some (ds, n') ∧ ∀ p xs F' H', Go W F H F' H' → Rl K F' B W σ H' env n' → H p = none → H' p = some (.lst xs) → F' p = none → RpAll K F' xs ds → Q (.ref p) H'
def rdT (m : TM) : TT := fun σ H Q => ∃ F B W env n b n', Rl K F B W σ H env n ∧ m env n = some (b, n') ∧ ∀ F' H', Go W F H F' H' → Rl K F' B W σ H' env n' → Q b H'
def rdA (m : AM) : TA := fun σ H Q => ∃ F B W env n ds n', Rl K F B W σ H env n ∧ m env n = some (ds, n') ∧ ∀ vs F' H', Go W F H F' H' → Rl K F' B W σ H' env n' → RpAll K F' vs ds → Q vs H'
inductive LpAll (F H : Hp) : List V → List PyData → Prop
  | nil : LpAll F H [] []
  | cons {v : V} {vs : List V} {d : PyData} {ds : List PyData} : Lp K F H v d → LpAll F H vs ds → LpAll F H (v :: vs) (d :: ds)
def rdAL (m : AM) : TA := fun σ H Q => ∃ F B W env n ds n', Rl K F B W σ H env n ∧ m env n = some (ds, n') ∧ ∀ vs F' H', Go W F H F' H' → Rl K F' B W σ H' env n' → LpWAll K F' H' W vs ds → Q vs H'
theorem LpWAll.all {F H : Hp} {W : Option Wl} {vs : List V} {ds : List PyData} (h : LpWAll K F H W vs ds) : LpAll K F H vs ds := by
  induction h with
  | nil => exact .nil
  | cons h _ ih => exact .cons h.lp ih
end
section
variable {X : Cx}
theorem _root_.L2.PE.imp {e : Expr} {t t' : TE} (h : PE X e t) (k : ∀ σ H Q, t' σ H Q → t σ H Q) : PE X e t' := ⟨fun pins s σ H Q I w => h.run pins s σ H Q I (k σ H Q w)⟩
theorem _root_.L2.PT.imp {e : Expr} {t t' : TT} (h : PT X e t) (k : ∀ σ H Q, t' σ H Q → t σ H Q) : PT X e t' := ⟨fun pins s σ H Q I w => h.run pins s σ H Q I (k σ H Q w)⟩
theorem _root_.L2.PW.imp {e : Expr} {t t' : TT} (h : PW X e t) (k : ∀ σ H Q, t' σ H Q → t σ H Q) : PW X e t' := ⟨fun wh pins s σ H Q I w => h.run wh pins s σ H Q I (k σ H Q w)⟩
theorem _root_.L2.PA.imp {e : List Expr} {t t' : TA} (h : PA X e t) (k : ∀ σ H Q, t' σ H Q → t σ H Q) : PA X e t' := ⟨fun pos pins s σ H Q I w => h.run pos pins s σ H Q I (k σ H Q w)⟩
theorem _root_.L2.PS.imp {e : Stmt} {t t' : TS} (h : PS X e t) (k : ∀ D σ H, t' D σ H → t D σ H) : PS X e t' := ⟨fun pins s σ H D I w => h.run pins s σ H D I (k D σ H w)⟩
theorem _root_.L2.PSs.imp {e : List Stmt} {t t' : TS} (h : PSs X e t) (k : ∀ D σ H, t' D σ H → t D σ H) : PSs X e t' := ⟨fun pins s σ H D I w => h.run pins s σ H D I (k D σ H w)⟩
/-- the judgements -/
abbrev DE (X : Cx) (e : Expr) (m : DM) : Prop := PE X e (rdE X.K m)
abbrev LE (X : Cx) (e : Expr) (m : DM) : Prop := PE X e (rdL X.K m)
abbrev FE (X : Cx) (e : Expr) (m : AM) : Prop := PE X e (rdF X.K m)
abbrev DT (X : Cx) (e : Expr) (m : TM) : Prop := PT X e (rdT X.K m)
abbrev DW (X : Cx) (e : Expr) (m : TM) : Prop := PW X e (rdT X.K m)
abbrev DA (X : Cx) (es : List Expr) (m : AM) : Prop := PA X es (rdA X.K m)
abbrev LA (X : Cx) (es : List Expr) (m : AM) : Prop := PA X es (rdAL X.K m)

/-! ### from one to another -/
theorem le_of {e : Expr} {m : DM} (h : DE X e m) : LE X e m := h.imp fun σ H Q ⟨F, B, W, env, n, d, n', rl, e, k⟩ => ⟨F, B, W, env, n, d, n', rl, e, fun v F' H' s r p => k v F' H' s r (.of p)⟩
theorem Rl.freeze {K : PySem.W.Frag} {F B H : Hp} {W : Option Wl} {σ : L2.St} {env : Env} {n : Nat} {p : Addr} {u : HO} (r : Rl K F B W σ H env n) (h : H p = some u) (f : F p = none) (b : B p = none)
    (w : Nch W p) (o : ∀ (i : Nat) (e : En), env[i]? = some (some e) → e.mut = true → σ[i]? ≠ some (some (.ref p))) : Rl K (upd F p u) B W σ H env n := by
  have s : Same F (upd F p u) := same_new f
  refine ⟨⟨same_upd r.zn.ff h, r.zn.bb, fun a x e => ?_⟩, ?_, fun i e he => ?_, r.ap, r.le⟩
  · have : a ≠ p := fun z => by rw [z, b] at e; cases e
    rw [upd_ne this]
    exact r.zn.dj a x e
  · have q := r.wo
    cases W with
    | none => trivial
    | some x =>
      obtain ⟨h1, h2, h3⟩ := q
      refine ⟨h1, x.mono s h2, fun y c => ⟨?_, (h3 y c).2⟩⟩
      rw [upd_ne (show y ≠ p from fun z => w x rfl (z ▸ c))]
      exact (h3 y c).1
  · obtain ⟨v, h1, h2⟩ := r.sl i e he
    refine ⟨v, h1, ?_⟩
    cases e with
    | val d => exact Rp.mono s h2
    | own ds =>
      obtain ⟨a, xs, rfl, q1, q2, q3, q4⟩ := h2
      have : a ≠ p := fun z => o i _ he rfl (by rw [h1, z])
      exact ⟨a, xs, rfl, q1, q2.mono s, by rw [upd_ne this]; exact q3, q4⟩
    | dct kvs =>
      obtain ⟨a, rfl, q3, q4, q⟩ := h2
      have : a ≠ p := fun z => o i _ he rfl (by rw [h1, z])
      refine ⟨a, rfl, by rw [upd_ne this]; exact q3, q4, ?_⟩
      rcases q with ⟨xs, q, q5, q6⟩ | ⟨xs, ks, ek, q, q5, q6⟩
      · exact .inl ⟨xs, q, q5, q6.mono s⟩
      · exact .inr ⟨xs, ks, ek, q, q5, q6.mono s⟩
    | wdr ws => exact h2
    | scr ns =>
      obtain ⟨a, e, h⟩ := h2
      exact ⟨a, e, s.seq h⟩
    | tabv d => exact ⟨Rp.mono s h2.1, h2.2⟩
theorem WOk.ne {F B H : Hp} {W : Option Wl} {n : Nat} {p : Addr} (w : WOk F B H n W) (h : H p = none) : Nch W p := fun x e z => by
  subst e
  obtain ⟨h1, _⟩ := w
  obtain ⟨o, q⟩ := Wl.there h1 z
  rw [h] at q
  cases q
theorem Rl.mut_ne {K : PySem.W.Frag} {F B H : Hp} {W : Option Wl} {σ : L2.St} {env : Env} {n : Nat} {p : Addr} (r : Rl K F B W σ H env n) (h : H p = none) : ∀ (i : Nat) (e : En), env[i]? = some (some e) → e.mut = true → σ[i]? ≠ some (some (.ref p)) := fun i e he hm z => by
  obtain ⟨v, h1, h2⟩ := r.sl i e he
  rw [z] at h1
  cases h1
  cases e with
  | val d => cases hm
  | scr ns => cases hm
  | tabv d => cases hm
  | own ds =>
    obtain ⟨a, xs, e, q, _⟩ := h2
    cases e
    rw [h] at q
    cases q
  | dct kvs =>
    obtain ⟨a, e, _, _, q⟩ := h2
    cases e
    rcases q with ⟨xs, q, _⟩ | ⟨xs, ks, ek, q, _⟩ <;> (rw [h] at q; cases q)
  | wdr ws =>
    obtain ⟨w, e, _, e2, _⟩ := h2
    cases e2
    subst e
    obtain ⟨q1, q2, _⟩ := r.wo
    rcases w.own q2 with q | ⟨o, q⟩
    · obtain ⟨o, q⟩ := Wl.there q1 q
      rw [h] at q
      cases q
    · have := r.zn.ff _ _ q
      rw [h] at this
      cases this
/-- the freshly made list is frozen -/
def dLst (m : AM) : DM := fun env => bnd (m env) fun ds => ret (.list ds)
theorem de_of_fe {e : Expr} {m : AM} (h : FE X e m) : DE X e (dLst m) := h.imp fun σ H Q ⟨F, B, W, env, n, d, n', rl, e, k⟩ => by
  obtain ⟨ds, n1, e1, e2⟩ := bnd_some e
  obtain ⟨rfl, rfl⟩ := ret_some e2
  refine ⟨F, B, W, env, n, ds, n', rl, e1, fun p xs F' H' s r hp h' f a => ?_⟩
  have bp : B p = none := same_none rl.zn.bb hp
  have r' : Rl X.K (upd F' p (.lst xs)) B W σ H' env n' := r.freeze h' f bp (rl.wo.ne hp) (rl.mut_ne hp)
  exact k _ _ _ (s.trans ⟨same_new f, fun _ _ e _ => e⟩) r' (.lst upd_same (a.mono (same_new f)))

/-! ### names, constants -/
def getV (env : Env) (i : Nat) : Option PyData := match env[i]? with
  | some (some (.val d)) => some d
  | _ => none
def getL (env : Env) (i : Nat) : Option PyData := match env[i]? with
  | some (some (.val d)) => some d
  | some (some (.own ds)) => some (.list ds)
  | _ => none
def dVar (i : Nat) : DM := fun env => lift (getV env i)
def dVarL (i : Nat) : DM := fun env => lift (getL env i)
def dC (d : PyData) : DM := fun _ => ret d
theorem getV_some {env : Env} {i : Nat} {d : PyData} (h : getV env i = some d) : env[i]? = some (some (.val d)) := by
  unfold getV at h
  split at h
  · cases h; assumption
  · cases h
theorem getL_some {env : Env} {i : Nat} {d : PyData} (h : getL env i = some d) : env[i]? = some (some (.val d)) ∨ ∃ ds, d = .list ds ∧ env[i]? = some (some (.own ds)) := by
  unfold getL at h
  split at h
  · cases h; exact .inl (by assumption)
  · cases h; exact .inr ⟨_, rfl, by assumption⟩
  · cases h
theorem de_var {e : Expr} {i : Nat} (h : PE X e (tVar i)) : DE X e (dVar i) := h.imp fun σ H Q ⟨F, B, W, env, n, d, n', rl, e, k⟩ => by
  obtain ⟨e1, rfl⟩ := lift_some e
  obtain ⟨v, h1, h2⟩ := rl.sl i _ (getV_some e1)
  exact ⟨v, h1, k v F H .refl rl h2⟩
theorem le_var {e : Expr} {i : Nat} (h : PE X e (tVar i)) : LE X e (dVarL i) := h.imp fun σ H Q ⟨F, B, W, env, n, d, n', rl, e, k⟩ => by
  obtain ⟨e1, rfl⟩ := lift_some e
  rcases getL_some e1 with e2 | ⟨ds, rfl, e2⟩
  · obtain ⟨v, h1, h2⟩ := rl.sl i _ e2
    exact ⟨v, h1, k v F H .refl rl (.of h2)⟩
  · obtain ⟨v, h1, a, xs, rfl, h2, h3, _, _, h4⟩ := rl.sl i _ e2
    exact ⟨_, h1, k _ F H .refl rl ⟨.inr ⟨a, xs, ds, rfl, rfl, h2, h3⟩, fun w b e z c => absurd (V.ref.inj z ▸ c) (h4 w e)⟩⟩
/-- a constant's value and datum -/
theorem de_c {e : Expr} {v : V} {d : PyData} (h : PE X e (tC v)) (r : ∀ F, Rp X.K F v d) : DE X e (dC d) := h.imp fun σ H Q ⟨F, B, W, env, n, d, n', rl, e, k⟩ => by
  obtain ⟨rfl, rfl⟩ := ret_some e
  exact k v F H .refl rl (r F)
theorem de_int {i : Int} {j pos} : DE X (.Constant (.int i) j pos) (dC (.int i)) := de_c pe_int fun _ => .int i
theorem de_bl {b : Bool} {j pos} : DE X (.Constant (.bool b) j pos) (dC (.bool b)) := de_c pe_bl fun _ => .bl b
theorem de_non {j pos} : DE X (.Constant .none j pos) (dC .none) := de_c pe_non fun _ => .non
theorem de_str {x : Str} {j pos} : DE X (.Constant (.str x) j pos) (dC (.str x)) := de_c pe_str fun _ => .str x

/-! ### operators by values -/
/-- r, by data: g -/
def R2D (K : PySem.W.Frag) (r : R2) (g : PyData → PyData → Option PyData) : Prop := ∀ (F H : Hp) (x y : V) (d1 d2 d : PyData) (Q : VK), Same F H → Lp K F H x d1 → Lp K F H y d2 → g d1 d2 = some d →
  (∀ v F' H', Gr F H F' H' → Rp K F' v d → Q v H') → r x y H Q
/-- .. a new list comes -/
def R2F (K : PySem.W.Frag) (r : R2) (g : PyData → PyData → Option (List PyData)) : Prop := ∀ (F H : Hp) (x y : V) (d1 d2 : PyData) (ds : List PyData) (Q : VK), Same F H → Lp K F H x d1 → Lp K F H y d2 → g d1 d2 = some ds →
  (∀ p xs, H p = none → RpAll K F xs ds → Q (.ref p) (upd H p (.lst xs))) → r x y H Q
def dOp (g : PyData → PyData → Option PyData) (a b : DM) : DM := fun env => bnd (a env) fun x => bnd (b env) fun y => lift (g x y)
def dOpF (g : PyData → PyData → Option (List PyData)) (a b : DM) : AM := fun env => bnd (a env) fun x => bnd (b env) fun y => lift (g x y)
theorem rd_op {K : PySem.W.Frag} {r : R2} {g : PyData → PyData → Option PyData} (hr : R2D K r g) {a b : DM} {σ : L2.St} {H : Hp} {Q : VK} (h : rdE K (dOp g a b) σ H Q) : tOp r (rdL K a) (rdL K b) σ H Q := by
  obtain ⟨F, B, W, env, n, d, n', rl, e, k⟩ := h
  obtain ⟨d1, n1, e1, e⟩ := bnd_some e
  obtain ⟨d2, n2, e2, e⟩ := bnd_some e
  obtain ⟨e3, rfl⟩ := lift_some e
  refine ⟨F, B, W, env, n, d1, n1, rl, e1, fun v F1 H1 s1 rl1 p1 => ⟨F1, B, W, env, n1, d2, n', rl1, e2, fun w F2 H2 s2 rl2 p2 => ?_⟩⟩
  exact hr F2 H2 v w d1 d2 d Q rl2.zn.ff (p1.go s2).lp p2.lp e3 fun z F3 H3 g p3 => k z F3 H3 ((s1.trans s2).trans (.of g)) (rl2.gr g) p3
theorem Go.keepNone {W : Option Wl} {F H F' H' : Hp} {K : PySem.W.Frag} {B : Hp} {σ : L2.St} {env : Env} {n n' : Nat} {p : Addr} (g : Go W F H F' H') (r : Rl K F B W σ H env n) (r' : Rl K F' B W σ H' env n') (h : H' p = none) : H p = none := by
  cases e : H p with
  | none => rfl
  | some o =>
    exfalso
    by_cases q : Nch W p
    · rw [g.h p o e q] at h
      cases h
    · cases W with
      | none => exact q fun w z => nomatch z
      | some w =>
        have : w.ch p := Classical.byContradiction fun z => q fun w' e' => by
          cases e'
          exact z
        obtain ⟨h1, _⟩ := r'.wo
        obtain ⟨o, q⟩ := Wl.there h1 this
        rw [h] at q
        cases q
theorem rd_opF {K : PySem.W.Frag} {r : R2} {g : PyData → PyData → Option (List PyData)} (hr : R2F K r g) {a b : DM} {σ : L2.St} {H : Hp} {Q : VK} (h : rdF K (dOpF g a b) σ H Q) : tOp r (rdL K a) (rdL K b) σ H Q := by
  obtain ⟨F, B, W, env, n, d, n', rl, e, k⟩ := h
  obtain ⟨d1, n1, e1, e⟩ := bnd_some e
  obtain ⟨d2, n2, e2, e⟩ := bnd_some e
  obtain ⟨e3, rfl⟩ := lift_some e
  refine ⟨F, B, W, env, n, d1, n1, rl, e1, fun v F1 H1 s1 rl1 p1 => ⟨F1, B, W, env, n1, d2, n', rl1, e2, fun w F2 H2 s2 rl2 p2 => ?_⟩⟩
  refine hr F2 H2 v w d1 d2 d Q rl2.zn.ff (p1.go s2).lp p2.lp e3 fun p xs hp a => ?_
  have gr : Gr F2 H2 F2 (upd H2 p (.lst xs)) := .mine rl2.zn.ff hp
  exact k p xs F2 _ ((s1.trans s2).trans (.of gr)) (rl2.gr gr) (s1.keepNone rl rl1 (s2.keepNone rl1 rl2 hp)) upd_same (same_none rl2.zn.ff hp) a
theorem R2D.or {K : PySem.W.Frag} {r r' : R2} {g g' : PyData → PyData → Option PyData} (h : R2D K r g) (h' : R2D K r' g') : R2D K (fun x y H Q => r x y H Q ∨ r' x y H Q) (fun x y => match g x y with
    | some d => some d
    | none => g' x y) := fun F H x y d1 d2 d Q s p1 p2 e k => by
  dsimp only at e
  split at e
  · cases e
    exact .inl (h F H x y d1 d2 _ Q s p1 p2 (by assumption) k)
  · exact .inr (h' F H x y d1 d2 _ Q s p1 p2 e k)
section
variable {X : Cx} {a b : Expr} {ma mb : DM} {pos : Pos}
theorem de_op {op : Operator} {r : R2} {g : PyData → PyData → Option PyData} (ho : OpR X (binaryOp op) r) (hr : R2D X.K r g) (ha : LE X a ma) (hb : LE X b mb) : DE X (.BinOp a op b pos) (dOp g ma mb) := (pe_op ho ha hb).imp fun _ _ _ h => rd_op hr h
theorem fe_op {op : Operator} {r : R2} {g : PyData → PyData → Option (List PyData)} (ho : OpR X (binaryOp op) r) (hr : R2F X.K r g) (ha : LE X a ma) (hb : LE X b mb) : FE X (.BinOp a op b pos) (dOpF g ma mb) := (pe_op ho ha hb).imp fun _ _ _ h => rd_opF hr h
theorem de_cmp {op : CmpOp} {r : R2} {g : PyData → PyData → Option PyData} (ho : OpR X (compareOp op) r) (hr : R2D X.K r g) (ha : LE X a ma) (hb : LE X b mb) (hm : behindInMarks op b = false) : DE X (.Compare a [op] [b] pos) (dOp g ma mb) := (pe_cmpR ho ha hb hm).imp fun _ _ _ h => rd_op hr h
/-- a truth value -/
def tOf (m : DM) : TM := fun env => bnd (m env) fun d => lift (match d with
  | .bool b => some b
  | _ => none)
theorem rd_test {K : PySem.W.Frag} {m : DM} {σ : L2.St} {H : Hp} {Q : Bool → Hp → Prop} (h : rdT K (tOf m) σ H Q) : tB (rdE K m) σ H Q := by
  obtain ⟨F, B, W, env, n, d, n', rl, e, k⟩ := h
  obtain ⟨d1, n1, e1, e⟩ := bnd_some e
  obtain ⟨e3, rfl⟩ := lift_some e
  refine ⟨F, B, W, env, n, d1, n', rl, e1, fun v F1 H1 s1 rl1 p1 => ?_⟩
  cases d1 with
  | bool c =>
    cases e3
    exact ⟨_, p1.bl_inv, k F1 H1 s1 rl1⟩
  | _ => cases e3
theorem dt_val {e : Expr} {m : DM} (h : DE X e m) (he : ∀ whole, isTrue e X.env whole = (do let v ← whole; standAt e.pos; holding [v] (truthy v)) := by intro _; rfl) : DT X e (tOf m) := (pt_val h he).imp fun _ _ _ h => rd_test h
theorem dt_cmp {op : CmpOp} {r : R2} {g : PyData → PyData → Option PyData} (ho : OpR X (compareOp op) r) (hr : R2D X.K r g) (ha : LE X a ma) (hb : LE X b mb) (hm : behindInMarks op b = false) : DT X (.Compare a [op] [b] pos) (tOf (dOp g ma mb)) :=
  (pt_cmpR ho ha hb hm).imp fun σ H Q h => by
    obtain ⟨F, B, W, env, n, d, n', rl, e, k⟩ := h
    obtain ⟨d1, n1, e1, e⟩ := bnd_some e
    obtain ⟨e3, rfl⟩ := lift_some e
    refine rd_op hr ⟨F, B, W, env, n, d1, n', rl, e1, fun v F1 H1 s1 rl1 p1 => ?_⟩
    cases d1 with
    | bool c =>
      cases e3
      exact ⟨_, p1.bl_inv, k F1 H1 s1 rl1⟩
    | _ => cases e3

/-! ### and, or, not, if else -/
variable {ta tb : TM} {rest : List Expr}
def tAnd (t u : TM) : TM := fun env => bnd (t env) fun b => if b = true then u env else ret false
def tOr (t u : TM) : TM := fun env => bnd (t env) fun b => if b = true then ret true else u env
def tNot (t : TM) : TM := fun env => bnd (t env) fun b => ret (!b)
theorem dw_and1 (h : DT X a ta) : DW X (.BoolOp .And [a] pos) ta := pw_and1 h
theorem dw_or1 (h : DT X a ta) : DW X (.BoolOp .Or [a] pos) ta := pw_or1 h
theorem dw_and (h : DT X a ta) (h2 : DW X (.BoolOp .And (b :: rest) pos) tb) : DW X (.BoolOp .And (a :: b :: rest) pos) (tAnd ta tb) := (pw_and h h2).imp fun σ H Q h => by
  obtain ⟨F, B, W, env, n, d, n', rl, e, k⟩ := h
  obtain ⟨b, n1, e1, e⟩ := bnd_some e
  refine ⟨F, B, W, env, n, b, n1, rl, e1, fun F1 H1 s1 rl1 => ?_⟩
  cases b with
  | true =>
    simp only [if_true] at e ⊢
    exact ⟨F1, B, W, env, n1, d, n', rl1, e, fun F2 H2 s2 rl2 => k F2 H2 (s1.trans s2) rl2⟩
  | false =>
    simp only [Bool.false_eq_true, if_false] at e ⊢
    obtain ⟨rfl, rfl⟩ := ret_some e
    exact k F1 H1 s1 rl1
theorem dw_or (h : DT X a ta) (h2 : DW X (.BoolOp .Or (b :: rest) pos) tb) : DW X (.BoolOp .Or (a :: b :: rest) pos) (tOr ta tb) := (pw_or h h2).imp fun σ H Q h => by
  obtain ⟨F, B, W, env, n, d, n', rl, e, k⟩ := h
  obtain ⟨b, n1, e1, e⟩ := bnd_some e
  refine ⟨F, B, W, env, n, b, n1, rl, e1, fun F1 H1 s1 rl1 => ?_⟩
  cases b with
  | false =>
    simp only [Bool.false_eq_true, if_false] at e ⊢
    exact ⟨F1, B, W, env, n1, d, n', rl1, e, fun F2 H2 s2 rl2 => k F2 H2 (s1.trans s2) rl2⟩
  | true =>
    simp only [if_true] at e ⊢
    obtain ⟨rfl, rfl⟩ := ret_some e
    exact k F1 H1 s1 rl1
theorem dt_bool {e : Expr} (h : DW X e ta) : DT X e ta := h.pt
theorem dt_not (h : DT X a ta) : DT X (.UnaryOp .Not a pos) (tNot ta) := (pt_not h).imp fun σ H Q h => by
  obtain ⟨F, B, W, env, n, d, n', rl, e, k⟩ := h
  obtain ⟨b, n1, e1, e⟩ := bnd_some e
  obtain ⟨rfl, rfl⟩ := ret_some e
  exact ⟨F, B, W, env, n, b, n', rl, e1, fun F1 H1 s1 rl1 => k F1 H1 s1 rl1⟩
/-- as values -/
def dAnd (t : DM) (u : DM) : DM := fun env => bnd (tOf t env) fun b => if b = true then u env else ret (.bool false)
def dOr (t : DM) (u : DM) : DM := fun env => bnd (tOf t env) fun b => if b = true then ret (.bool true) else u env
def dNot (t : DM) : DM := fun env => bnd (tOf t env) fun b => ret (.bool (!b))
def dIf (t : TM) (x y : DM) : DM := fun env => bnd (t env) fun b => if b = true then x env else y env
theorem de_one {op} (h : DE X a ma) : DE X (.BoolOp op [a] pos) ma := pe_one h
theorem de_and (h : DE X a ma) (h2 : DE X (.BoolOp .And (b :: rest) pos) mb) : DE X (.BoolOp .And (a :: b :: rest) pos) (dAnd ma mb) := (pe_and h h2).imp fun σ H Q h => by
  obtain ⟨F, B, W, env, n, d, n', rl, e, k⟩ := h
  obtain ⟨b, n1, e1, e⟩ := bnd_some e
  refine rd_test (Q := fun c H1 => if c = true then rdE X.K mb σ H1 Q else Q (.bl false) H1) ⟨F, B, W, env, n, b, n1, rl, e1, fun F1 H1 s1 rl1 => ?_⟩
  cases b with
  | true =>
    simp only [if_true] at e ⊢
    exact ⟨F1, B, W, env, n1, d, n', rl1, e, fun v F2 H2 s2 rl2 p => k v F2 H2 (s1.trans s2) rl2 p⟩
  | false =>
    simp only [Bool.false_eq_true, if_false] at e ⊢
    obtain ⟨rfl, rfl⟩ := ret_some e
    exact k _ F1 H1 s1 rl1 (.bl _)
theorem de_or (h : DE X a ma) (h2 : DE X (.BoolOp .Or (b :: rest) pos) mb) : DE X (.BoolOp .Or (a :: b :: rest) pos) (dOr ma mb) := (pe_or h h2).imp fun σ H Q h => by
  obtain ⟨F, B, W, env, n, d, n', rl, e, k⟩ := h
  obtain ⟨b, n1, e1, e⟩ := bnd_some e
  refine rd_test (Q := fun c H1 => if c = true then Q (.bl true) H1 else rdE X.K mb σ H1 Q) ⟨F, B, W, env, n, b, n1, rl, e1, fun F1 H1 s1 rl1 => ?_⟩
  cases b with
  | false =>
    simp only [Bool.false_eq_true, if_false] at e ⊢
    exact ⟨F1, B, W, env, n1, d, n', rl1, e, fun v F2 H2 s2 rl2 p => k v F2 H2 (s1.trans s2) rl2 p⟩
  | true =>
    simp only [if_true] at e ⊢
    obtain ⟨rfl, rfl⟩ := ret_some e
    exact k _ F1 H1 s1 rl1 (.bl _)
theorem de_not (h : DE X a ma) : DE X (.UnaryOp .Not a pos) (dNot ma) := (pe_not h).imp fun σ H Q h => by
  obtain ⟨F, B, W, env, n, d, n', rl, e, k⟩ := h
  obtain ⟨b, n1, e1, e⟩ := bnd_some e
  obtain ⟨rfl, rfl⟩ := ret_some e
  exact rd_test (Q := fun c H1 => Q (.bl (!c)) H1) ⟨F, B, W, env, n, b, n', rl, e1, fun F1 H1 s1 rl1 => k _ F1 H1 s1 rl1 (.bl _)⟩
theorem de_if {c : Expr} (hc : DT X c ta) (ha : DE X a ma) (hb : DE X b mb) : DE X (.IfExp c a b pos) (dIf ta ma mb) := (pe_ifExp hc ha hb).imp fun σ H Q h => by
  obtain ⟨F, B, W, env, n, d, n', rl, e, k⟩ := h
  obtain ⟨b, n1, e1, e⟩ := bnd_some e
  refine ⟨F, B, W, env, n, b, n1, rl, e1, fun F1 H1 s1 rl1 => ?_⟩
  cases b with
  | true =>
    simp only [if_true] at e ⊢
    exact ⟨F1, B, W, env, n1, d, n', rl1, e, fun v F2 H2 s2 rl2 p => k v F2 H2 (s1.trans s2) rl2 p⟩
  | false =>
    simp only [Bool.false_eq_true, if_false] at e ⊢
    exact ⟨F1, B, W, env, n1, d, n', rl1, e, fun v F2 H2 s2 rl2 p => k v F2 H2 (s1.trans s2) rl2 p⟩

/-! ### argument lists, displays -/
variable {e : Expr} {es : List Expr} {me : DM} {ms : AM}
def aNil : AM := fun _ => ret []
def aCons (m : DM) (r : AM) : AM := fun env => bnd (m env) fun d => bnd (r env) fun ds => ret (d :: ds)
theorem da_nil : DA X [] aNil := pa_nil.imp fun σ H Q ⟨F, B, W, env, n, d, n', rl, e, k⟩ => by
  obtain ⟨rfl, rfl⟩ := ret_some e
  exact k [] F H .refl rl .nil
theorem da_cons (h : DE X e me) (h2 : DA X es ms) (hs : starEach (e :: es) X.env = (false, eval e X.env) :: starEach es X.env := by rfl) : DA X (e :: es) (aCons me ms) := (pa_cons h h2 hs).imp fun σ H Q ⟨F, B, W, env, n, d, n', rl, e, k⟩ => by
  obtain ⟨d1, n1, e1, e⟩ := bnd_some e
  obtain ⟨d2, n2, e2, e⟩ := bnd_some e
  obtain ⟨rfl, rfl⟩ := ret_some e
  exact ⟨F, B, W, env, n, d1, n1, rl, e1, fun v F1 H1 s1 rl1 p1 => ⟨F1, B, W, env, n1, d2, n', rl1, e2, fun vs F2 H2 s2 rl2 p2 => k _ F2 H2 (s1.trans s2) rl2 (.cons (p1.mono s2.f) p2)⟩⟩
theorem la_nil : LA X [] aNil := pa_nil.imp fun σ H Q ⟨F, B, W, env, n, d, n', rl, e, k⟩ => by
  obtain ⟨rfl, rfl⟩ := ret_some e
  exact k [] F H .refl rl .nil
theorem la_cons (h : LE X e me) (h2 : LA X es ms) (hs : starEach (e :: es) X.env = (false, eval e X.env) :: starEach es X.env := by rfl) : LA X (e :: es) (aCons me ms) := (pa_cons h h2 hs).imp fun σ H Q ⟨F, B, W, env, n, d, n', rl, e, k⟩ => by
  obtain ⟨d1, n1, e1, e⟩ := bnd_some e
  obtain ⟨d2, n2, e2, e⟩ := bnd_some e
  obtain ⟨rfl, rfl⟩ := ret_some e
  exact ⟨F, B, W, env, n, d1, n1, rl, e1, fun v F1 H1 s1 rl1 p1 => ⟨F1, B, W, env, n1, d2, n', rl1, e2, fun vs F2 H2 s2 rl2 p2 => k _ F2 H2 (s1.trans s2) rl2 (.cons (p1.go s2) p2)⟩⟩
/-- at most so many items: what the layer's lists may hold -/
def lim : Nat := 16000000
theorem lim_le {n : Nat} (h : n ≤ lim) : n ≤ sizeLine := Nat.le_trans h (by decide)
theorem lim_lt {n : Nat} (h : n < lim) : n < sizeLine := Nat.lt_of_lt_of_le h (by decide)
def dTup (m : AM) : DM := fun env => bnd (m env) fun ds => if ds.length ≤ lim then ret (.tuple ds) else fail
def dDisp (m : AM) : AM := fun env => bnd (m env) fun ds => if ds.length ≤ lim then ret ds else fail
theorem de_tup {x1} (h : DA X es ms) : DE X (.Tuple es x1 pos) (dTup ms) := (pe_tup h).imp fun σ H Q ⟨F, B, W, env, n, d, n', rl, e, k⟩ => by
  obtain ⟨ds, n1, e1, e⟩ := bnd_some e
  split at e
  · obtain ⟨rfl, rfl⟩ := ret_some e
    refine ⟨F, B, W, env, n, ds, n', rl, e1, fun vs F1 H1 s1 rl1 p1 => ⟨by rw [p1.len]; exact lim_le (by assumption), fun p hp => ?_⟩⟩
    have gr : Gr F1 H1 (upd F1 p (.tup vs)) (upd H1 p (.tup vs)) := .new rl1.zn.ff hp
    exact k _ _ _ (s1.trans (.of gr)) (rl1.gr gr) (.tup (.of upd_same) (p1.mono gr.f))
  · cases e
theorem fe_lst (h : DA X es ms) : FE X (.List es pos) (dDisp ms) := (pe_lst h).imp fun σ H Q ⟨F, B, W, env, n, d, n', rl, e, k⟩ => by
  obtain ⟨ds, n1, e1, e⟩ := bnd_some e
  split at e
  · obtain ⟨rfl, rfl⟩ := ret_some e
    refine ⟨F, B, W, env, n, d, n', rl, e1, fun vs F1 H1 s1 rl1 p1 => ⟨by rw [p1.len]; exact lim_le (by assumption), fun p hp => ?_⟩⟩
    have gr : Gr F1 H1 F1 (upd H1 p (.lst vs)) := .mine rl1.zn.ff hp
    exact k p vs F1 _ (s1.trans (.of gr)) (rl1.gr gr) (s1.keepNone rl rl1 hp) upd_same (same_none rl1.zn.ff hp) p1
  · cases e

/-! ### calls of builtins by values -/
def RCD (K : PySem.W.Frag) (r : List V → Hp → VK → Prop) (g : List PyData → Option PyData) : Prop := ∀ (F H : Hp) (vs : List V) (ds : List PyData) (d : PyData) (Q : VK), Same F H → LpAll K F H vs ds → g ds = some d →
  (∀ v F' H', Gr F H F' H' → Rp K F' v d → Q v H') → r vs H Q
def RCF (K : PySem.W.Frag) (r : List V → Hp → VK → Prop) (g : List PyData → Option (List PyData)) : Prop := ∀ (F H : Hp) (vs : List V) (ds : List PyData) (es : List PyData) (Q : VK), Same F H → LpAll K F H vs ds → g ds = some es →
  (∀ p xs, H p = none → RpAll K F xs es → Q (.ref p) (upd H p (.lst xs))) → r vs H Q
def dCallB (g : List PyData → Option PyData) (m : AM) : DM := fun env => bnd (m env) fun ds => lift (g ds)
def dCallF (g : List PyData → Option (List PyData)) (m : AM) : AM := fun env => bnd (m env) fun ds => lift (g ds)
theorem rd_callB {K : PySem.W.Frag} {r : List V → Hp → VK → Prop} {g : List PyData → Option PyData} (hr : RCD K r g) {m : AM} {σ : L2.St} {H : Hp} {Q : VK} (h : rdE K (dCallB g m) σ H Q) : tCB r (rdAL K m) σ H Q := by
  obtain ⟨F, B, W, env, n, d, n', rl, e, k⟩ := h
  obtain ⟨ds, n1, e1, e⟩ := bnd_some e
  obtain ⟨e3, rfl⟩ := lift_some e
  exact ⟨F, B, W, env, n, ds, n', rl, e1, fun vs F1 H1 s1 rl1 p1 => hr F1 H1 vs ds d Q rl1.zn.ff p1.all e3 fun v F2 H2 gr p2 => k v F2 H2 (s1.trans (.of gr)) (rl1.gr gr) p2⟩
theorem rd_callF {K : PySem.W.Frag} {r : List V → Hp → VK → Prop} {g : List PyData → Option (List PyData)} (hr : RCF K r g) {m : AM} {σ : L2.St} {H : Hp} {Q : VK} (h : rdF K (dCallF g m) σ H Q) : tCB r (rdAL K m) σ H Q := by
  obtain ⟨F, B, W, env, n, d, n', rl, e, k⟩ := h
  obtain ⟨ds, n1, e1, e⟩ := bnd_some e
  obtain ⟨e3, rfl⟩ := lift_some e
  refine ⟨F, B, W, env, n, ds, n', rl, e1, fun vs F1 H1 s1 rl1 p1 => hr F1 H1 vs ds d Q rl1.zn.ff p1.all e3 fun p xs hp a => ?_⟩
  have gr : Gr F1 H1 F1 (upd H1 p (.lst xs)) := .mine rl1.zn.ff hp
  exact k p xs F1 _ (s1.trans (.of gr)) (rl1.gr gr) (s1.keepNone rl rl1 hp) upd_same (same_none rl1.zn.ff hp) a
variable {r : List V → Hp → VK → Prop} {g : List PyData → Option PyData} {gf : List PyData → Option (List PyData)}
theorem de_cb {m : AM} (h : PE X e (tCB r (rdAL X.K m))) (hr : RCD X.K r g) : DE X e (dCallB g m) := h.imp fun _ _ _ h => rd_callB hr h
theorem fe_cb {m : AM} (h : PE X e (tCB r (rdAL X.K m))) (hr : RCF X.K r gf) : FE X e (dCallF gf m) := h.imp fun _ _ _ h => rd_callF hr h
end
end
end DL

/-! DL, part c: targets, comprehensions, statements, loops, defs. -/
namespace DL
open PySem PySem.Spec PyProof.Rows L2

/-! ### targets -/
inductive Pt where
  | nm (i : Nat)
  | tp (ps : List Pt)
mutual
def gOf (K : PySem.W.Frag) : Pt → TG
  | .nm i => gName i
  | .tp ps => gTup K ps.length (gsOf K ps)
def gsOf (K : PySem.W.Frag) : List Pt → TGs
  | [] => gNil
  | p :: ps => gCons (gOf K p) (gsOf K ps)
end
mutual
def bindP : Pt → PyData → Env → Option Env
  | .nm i, d, env => some (env.set i (some (.val d)))
  | .tp ps, d, env => match d with
    | .tuple ds => bindPs ps ds env
    | _ => none
def bindPs : List Pt → List PyData → Env → Option Env
  | [], ds, env => match ds with
    | [] => some env
    | _ :: _ => none
  | p :: ps, ds, env => match ds with
    | [] => none
    | d :: ds => match bindP p d env with
      | none => none
      | some e => bindPs ps ds e
end
mutual
def Pt.slots : Pt → List Nat
  | .nm i => [i]
  | .tp ps => slotsL ps
def slotsL : List Pt → List Nat
  | [] => []
  | p :: ps => p.slots ++ slotsL ps
end
theorem Rl.set {K : PySem.W.Frag} {F B H : Hp} {W : Option Wl} {σ : L2.St} {env : Env} {n : Nat} {v : V} {d : PyData} (i : Nat) (r : Rl K F B W σ H env n) (h : Rp K F v d) : Rl K F B W (σ.set i (some v)) H (env.set i (some (.val d))) n := by
  refine ⟨r.zn, r.wo, fun j e he => ?_, fun j k e e' u hjk h1 h2 m1 m2 h3 h4 => ?_, by simp [r.le]⟩
  · by_cases hij : i = j
    · subst hij
      by_cases hl : i < env.length
      · rw [List.getElem?_set_self hl] at he
        cases he
        exact ⟨v, List.getElem?_set_self (by rw [← r.le]; exact hl), h⟩
      · rw [List.getElem?_eq_none (by simpa using hl)] at he
        cases he
    · rw [List.getElem?_set_ne hij] at he ⊢
      exact r.sl j e he
  · have ne : ∀ (j : Nat) (e : En), (env.set i (some (.val d)))[j]? = some (some e) → e.mut = true → i ≠ j := fun j e he hm z => by
      subst z
      by_cases hl : i < env.length
      · rw [List.getElem?_set_self hl] at he
        cases he
        cases hm
      · rw [List.getElem?_eq_none (by simpa using hl)] at he
        cases he
    have n1 := ne j e h1 m1
    have n2 := ne k e' h2 m2
    rw [List.getElem?_set_ne n1] at h1 h3
    rw [List.getElem?_set_ne n2] at h2 h4
    exact r.ap j k e e' u hjk h1 h2 m1 m2 h3 h4
/-- σ' is as σ but for the slots in l -/
def Out (l : List Nat) (σ σ' : L2.St) (env env' : Env) : Prop := σ'.length = σ.length ∧ ∀ i, i ∉ l → σ'[i]? = σ[i]? ∧ env'[i]? = env[i]?
mutual
theorem rd_pt {K : PySem.W.Frag} {F B H : Hp} {W : Option Wl} {n : Nat} : ∀ (p : Pt) (d : PyData) (env env' : Env) (σ : L2.St) (v : V) (Q : L2.St → Hp → Prop), Rl K F B W σ H env n → Rp K F v d → bindP p d env = some env' →
    (∀ σ', Rl K F B W σ' H env' n → Out p.slots σ σ' env env' → Q σ' H) → gOf K p v σ H Q
  | .nm i, d, env, env', σ, v, Q, r, h, e, k => by
    simp only [bindP, Option.some.injEq] at e
    subst e
    show Q (σ.set i (some v)) H
    refine k _ (r.set i h) ⟨by simp, fun j hj => ?_⟩
    have : i ≠ j := fun z => hj (by simp [Pt.slots, z])
    exact ⟨List.getElem?_set_ne this, List.getElem?_set_ne this⟩
  | .tp ps, d, env, env', σ, v, Q, r, h, e, k => by
    simp only [bindP] at e
    split at e
    · obtain ⟨a, xs, rfl, hs, hx⟩ := h.tup_inv
      refine ⟨a, xs, rfl, sqt_mono r.zn.ff hs, ?_, rd_pts ps _ env env' σ xs Q r hx e fun σ' r' o => k σ' r' (by simpa only [Pt.slots] using o)⟩
      rw [hx.len]
      exact bindPs_len ps _ env env' e
    · cases e
theorem rd_pts {K : PySem.W.Frag} {F B H : Hp} {W : Option Wl} {n : Nat} : ∀ (ps : List Pt) (ds : List PyData) (env env' : Env) (σ : L2.St) (vs : List V) (Q : L2.St → Hp → Prop), Rl K F B W σ H env n → RpAll K F vs ds → bindPs ps ds env = some env' →
    (∀ σ', Rl K F B W σ' H env' n → Out (slotsL ps) σ σ' env env' → Q σ' H) → gsOf K ps vs σ H Q
  | [], ds, env, env', σ, vs, Q, r, h, e, k => by
    cases h with
    | nil =>
      simp only [bindPs, Option.some.injEq] at e
      subst e
      exact ⟨rfl, k σ r ⟨rfl, fun _ _ => ⟨rfl, rfl⟩⟩⟩
    | cons _ _ => simp [bindPs] at e
  | p :: ps, ds, env, env', σ, vs, Q, r, h, e, k => by
    cases h with
    | nil => simp [bindPs] at e
    | @cons v vs d ds h1 h2 =>
      simp only [bindPs] at e
      split at e
      · cases e
      · rename_i e1 he1
        refine ⟨v, vs, rfl, rd_pt p d env e1 σ v _ r h1 he1 fun σ1 r1 o1 => rd_pts ps ds e1 env' σ1 vs Q r1 h2 e fun σ2 r2 o2 => k σ2 r2 ⟨o2.1.trans o1.1, fun i hi => ?_⟩⟩
        have q1 := o1.2 i fun z => hi (by simp [slotsL, z])
        have q2 := o2.2 i fun z => hi (by simp [slotsL, z])
        exact ⟨q2.1.trans q1.1, q2.2.trans q1.2⟩
theorem bindPs_len : ∀ (ps : List Pt) (ds : List PyData) (env env' : Env), bindPs ps ds env = some env' → ds.length = ps.length
  | [], ds, env, env', e => by
    cases ds with
    | nil => rfl
    | cons _ _ => simp [bindPs] at e
  | p :: ps, ds, env, env', e => by
    cases ds with
    | nil => simp [bindPs] at e
    | cons d ds =>
      simp only [bindPs] at e
      split at e
      · cases e
      · simp [bindPs_len ps ds _ env' e]
end
abbrev DG (X : Cx) (tg : Expr) (p : Pt) : Prop := PG X tg (gOf X.K p)
abbrev DGs (X : Cx) (tgs : List Expr) (ps : List Pt) : Prop := PGs X tgs (gsOf X.K ps)
section
variable {X : Cx}
theorem dg_name {i : Nat} {tg : Expr} (h : PG X tg (gName i)) : DG X tg (.nm i) := h
theorem dgs_nil : DGs X [] [] := pgs_nil
theorem dgs_cons {e : Expr} {es : List Expr} {p : Pt} {ps : List Pt} (h : DG X e p) (h2 : DGs X es ps) (hs : (assignEach (e :: es) X.env).map (·.2) = assign e X.env :: (assignEach es X.env).map (·.2) := by rfl) : DGs X (e :: es) (p :: ps) := pgs_cons h h2 hs
theorem dg_tup {es : List Expr} {k : Nat} {ps : List Pt} {pos : Pos} (hc : X.calm = true) (h : DGs X es ps) (hn : (assignEach es X.env).length = ps.length := by rfl) (hst : (assignEach es X.env).findIdx? (·.1) = none := by rfl) : DG X (.Tuple es k pos) (.tp ps) := pg_tup hc h hn hst
end

/-! ### what is walked -/
structure Wk (K : PySem.W.Frag) (J : It) (F : Hp) (ds : List PyData) : Prop where
  go : ∀ i H, Same F H → i < ds.length → J.go i H
  stop : ∀ H, Same F H → J.stop ds.length H
  yld : ∀ i F1 H x H', Same F F1 → Same F1 H → i < ds.length → J.yld i H x H' → ∃ d F2, ds[i]? = some d ∧ Gr F1 H F2 H' ∧ Rp K F2 x d
def rdI (K : PySem.W.Frag) (m : AM) : TI := fun σ H R => ∃ F B W env n ds n', Rl K F B W σ H env n ∧ m env n = some (ds, n') ∧ ∀ J F' H', Go W F H F' H' → Rl K F' B W σ H' env n' → Wk K J F' ds → R J H'
abbrev DI (X : Cx) (tg iter : Expr) (m : AM) : Prop := PI X tg iter (rdI X.K m)
theorem _root_.L2.PI.imp {X : Cx} {tg iter : Expr} {t t' : TI} (h : PI X tg iter t) (k : ∀ σ H R, t' σ H R → t σ H R) : PI X tg iter t' := ⟨fun pins s σ H R I w => h.run pins s σ H R I (k σ H R w)⟩
/-- the items of a list, of a tuple -/
def itemsL (m : DM) : AM := fun env => bnd (m env) fun d => lift (match d with
  | .list ds => some ds
  | _ => none)
def itemsT (m : DM) : AM := fun env => bnd (m env) fun d => lift (match d with
  | .tuple ds => some ds
  | _ => none)
def rangeD (lo hi : Int) : List PyData := (List.range (hi - lo).toNat).map fun (i : Nat) => PyData.int (lo + (i : Int))
def big : Int := 1000000000
def itemsR1 (m : DM) : AM := fun env => bnd (m env) fun d => lift (match d with
  | .int j => if -big ≤ j ∧ j ≤ big then some (rangeD 0 j) else none
  | _ => none)
def itemsR2 (a b : DM) : AM := fun env => bnd (a env) fun x => bnd (b env) fun y => lift (match x, y with
  | .int i, .int j => if -big ≤ i ∧ i ≤ big ∧ -big ≤ j ∧ j ≤ big then some (rangeD i j) else none
  | _, _ => none)
theorem rangeD_len (lo hi : Int) : (rangeD lo hi).length = (hi - lo).toNat := by simp [rangeD]
theorem rangeD_get {lo hi : Int} {i : Nat} (h : i < (rangeD lo hi).length) : (rangeD lo hi)[i]? = some (.int (lo + (i : Int))) := by
  rw [rangeD_len] at h
  simp [rangeD, h]
section
variable {X : Cx} {tg e : Expr} {K : PySem.W.Frag}
theorem wk_list {F : Hp} {a : Addr} {xs : List V} {ds : List PyData} (h : F a = some (.lst xs)) (r : RpAll K F xs ds) : Wk K (Itl K a) F ds := by
  have len := r.len
  refine ⟨fun i H s hi => ⟨xs, _, .of (s _ _ h), List.getElem?_eq_getElem (by omega)⟩, fun H s => ⟨xs, .of (s _ _ h), by rw [len]; exact Nat.le_refl _⟩, fun i F1 H x H' s1 s hi q => ?_⟩
  obtain ⟨rfl, q⟩ := q
  obtain ⟨d, h1, h2⟩ := r.get' (q xs (.of ((s1.trans s) _ _ h)))
  exact ⟨d, F1, h1, .refl s, h2.mono s1⟩
theorem wk_tup {F : Hp} {a : Addr} {xs : List V} {ds : List PyData} (h : SqT K F a xs) (r : RpAll K F xs ds) : Wk K (Itt K a) F ds := by
  have len := r.len
  refine ⟨fun i H s hi => ⟨xs, _, sqt_mono s h, List.getElem?_eq_getElem (by omega)⟩, fun H s => ⟨xs, sqt_mono s h, by rw [len]; exact Nat.le_refl _⟩, fun i F1 H x H' s1 s hi q => ?_⟩
  obtain ⟨rfl, q⟩ := q
  obtain ⟨d, h1, h2⟩ := r.get' (q xs (sqt_mono (s1.trans s) h))
  exact ⟨d, F1, h1, .refl s, h2.mono s1⟩
theorem wk_range {F : Hp} {lo hi : Int} : Wk K (Itr lo (hi - lo).toNat) F (rangeD lo hi) := by
  refine ⟨fun i H _ h => by rw [rangeD_len] at h; exact h, fun H _ => by rw [rangeD_len]; exact Nat.le_refl _, fun i F1 H x H' s1 s h q => ?_⟩
  obtain ⟨rfl, rfl⟩ := q
  exact ⟨_, F1, rangeD_get h, .refl s, .int _⟩
theorem di_list {m : DM} (h : DE X e m) : DI X tg e (itemsL m) := (pi_list h).imp fun σ H R ⟨F, B, W, env, n, ds, n', rl, e, k⟩ => by
  obtain ⟨d, n1, e1, e⟩ := bnd_some e
  obtain ⟨e3, rfl⟩ := lift_some e
  refine ⟨F, B, W, env, n, d, n', rl, e1, fun v F1 H1 s1 rl1 p1 => ?_⟩
  cases d with
  | list es =>
    cases e3
    obtain ⟨a, xs, rfl, h, r⟩ := p1.lst_inv
    exact ⟨a, rfl, ⟨xs, .of (rl1.zn.ff _ _ h)⟩, k _ F1 H1 s1 rl1 (wk_list h r)⟩
  | _ => cases e3
theorem di_tup {m : DM} (h : DE X e m) : DI X tg e (itemsT m) := (pi_tup h).imp fun σ H R ⟨F, B, W, env, n, ds, n', rl, e, k⟩ => by
  obtain ⟨d, n1, e1, e⟩ := bnd_some e
  obtain ⟨e3, rfl⟩ := lift_some e
  refine ⟨F, B, W, env, n, d, n', rl, e1, fun v F1 H1 s1 rl1 p1 => ?_⟩
  cases d with
  | tuple es =>
    cases e3
    obtain ⟨a, xs, rfl, h, r⟩ := p1.tup_inv
    exact ⟨a, rfl, ⟨xs, sqt_mono rl1.zn.ff h⟩, k _ F1 H1 s1 rl1 (wk_tup h r)⟩
  | _ => cases e3
theorem di_range1 {m : DM} (h : PI X tg e (iRng1 (rdA X.K (aCons m aNil)))) : DI X tg e (itemsR1 m) := h.imp fun σ H R ⟨F, B, W, env, n, ds, n', rl, e, k⟩ => by
  obtain ⟨d, n1, e1, e⟩ := bnd_some e
  obtain ⟨e3, rfl⟩ := lift_some e
  refine ⟨F, B, W, env, n, [d], n', rl, ?_, fun vs F1 H1 s1 rl1 p1 => ?_⟩
  · simp [aCons, aNil, bnd, ret, e1]
  · split at e3
    · split at e3
      · cases e3
        cases p1 with
        | cons h1 h2 =>
          cases h2
          rw [h1.int_inv]
          unfold big at *
          refine ⟨_, rfl, by omega, by omega, ?_⟩
          have q := k (Itr 0 _) F1 H1 s1 rl1 (wk_range (lo := 0))
          rw [Int.sub_zero] at q
          exact q
      · cases e3
    · cases e3
theorem di_range2 {ma mb : DM} (h : PI X tg e (iRng2 (rdA X.K (aCons ma (aCons mb aNil))))) : DI X tg e (itemsR2 ma mb) := h.imp fun σ H R ⟨F, B, W, env, n, ds, n', rl, e, k⟩ => by
  obtain ⟨d, n1, e1, e⟩ := bnd_some e
  obtain ⟨d2, n2, e2, e⟩ := bnd_some e
  obtain ⟨e3, rfl⟩ := lift_some e
  refine ⟨F, B, W, env, n, [d, d2], n', rl, ?_, fun vs F1 H1 s1 rl1 p1 => ?_⟩
  · simp [aCons, aNil, bnd, ret, e1, e2]
  · split at e3
    · split at e3
      · cases e3
        cases p1 with
        | cons h1 h2 =>
          cases h2 with
          | cons h2 h3 =>
            cases h3
            rw [h1.int_inv, h2.int_inv]
            unfold big at *
            exact ⟨_, _, rfl, ⟨by omega, by omega, by omega, by omega⟩, k (Itr _ _) F1 H1 s1 rl1 wk_range⟩
      · cases e3
    · cases e3
end

/-! ### list comprehensions -/
def wipeE (env : Env) : List Nat → Env
  | [] => env
  | v :: vs => (wipeE env vs).set v none
def noMut (env : Env) (vs : List Nat) : Bool := vs.all fun i => match env[i]? with
  | some (some e) => !e.mut
  | _ => true
def lcLoop (p : Pt) (t : TM) (m : DM) (env : Env) : List PyData → OM (List PyData)
  | [] => ret []
  | d :: ds => match bindP p d env with
    | none => fail
    | some e => bnd (t e) fun b => if b = true then bnd (m e) fun x => bnd (lcLoop p t m env ds) fun xs => ret (x :: xs) else lcLoop p t m env ds
def dLc (src : AM) (p : Pt) (t : TM) (m : DM) (vs : List Nat) : AM := fun env => bnd (src env) fun ds => if ds.length ≤ lim ∧ noMut env vs = true then lcLoop p t m (wipeE env vs) ds else fail
theorem lcLoop_cons {p : Pt} {t : TM} {m : DM} {env : Env} {d : PyData} {ds es : List PyData} {n n' : Nat} (h : lcLoop p t m env (d :: ds) n = some (es, n')) :
    ∃ e, bindP p d env = some e ∧ bnd (t e) (fun b => if b = true then bnd (m e) fun x => bnd (lcLoop p t m env ds) fun xs => ret (x :: xs) else lcLoop p t m env ds) n = some (es, n') := by
  cases hb : bindP p d env with
  | none =>
    simp only [lcLoop, hb, fail] at h
    cases h
  | some e =>
    simp only [lcLoop, hb] at h
    exact ⟨e, rfl, h⟩
theorem wipeE_length (env : Env) : ∀ vs : List Nat, (wipeE env vs).length = env.length
  | [] => rfl
  | v :: vs => by simp [wipeE, wipeE_length env vs]
theorem wipeE_out {env : Env} {i : Nat} : ∀ {vs : List Nat}, i ∉ vs → (wipeE env vs)[i]? = env[i]?
  | [], _ => rfl
  | v :: vs, h => by
    have h1 : v ≠ i := fun e => h (by rw [e]; exact List.mem_cons_self)
    unfold wipeE
    rw [List.getElem?_set_ne h1]
    exact wipeE_out fun m => h (List.mem_cons_of_mem _ m)
theorem wipeE_some {env : Env} {i : Nat} {x : En} : ∀ {vs : List Nat}, (wipeE env vs)[i]? = some (some x) → env[i]? = some (some x) ∧ i ∉ vs
  | [], h => ⟨h, by simp⟩
  | v :: vs, h => by
    unfold wipeE at h
    by_cases hi : v = i
    · subst hi
      by_cases hv : v < (wipeE env vs).length
      · rw [List.getElem?_set_self hv] at h; cases h
      · rw [List.getElem?_eq_none (by simpa using hv)] at h; cases h
    · rw [List.getElem?_set_ne hi] at h
      obtain ⟨h1, h2⟩ := wipeE_some h
      exact ⟨h1, by simp only [List.mem_cons, not_or]; exact ⟨fun e => hi e.symm, h2⟩⟩
theorem wipe_in {σ : L2.St} {i : Nat} : ∀ {vs : List Nat}, i ∈ vs → i < σ.length → (wipe σ vs)[i]? = some none
  | v :: vs, h, hl => by
    unfold wipe
    by_cases e : v = i
    · subst e
      exact List.getElem?_set_self (by rw [wipe_length]; exact hl)
    · rw [List.getElem?_set_ne e]
      refine wipe_in ?_ hl
      rcases List.mem_cons.mp h with z | z
      · exact absurd z.symm e
      · exact z
theorem wipe_eq {σ σ' : L2.St} {vs : List Nat} (hl : σ'.length = σ.length) (h : ∀ i, i ∉ vs → σ'[i]? = σ[i]?) : wipe σ' vs = wipe σ vs := by
  apply List.ext_getElem?
  intro i
  by_cases hi : i ∈ vs
  · by_cases hb : i < σ.length
    · rw [wipe_in hi hb, wipe_in hi (by rw [hl]; exact hb)]
    · rw [List.getElem?_eq_none (by rw [wipe_length]; omega), List.getElem?_eq_none (by rw [wipe_length]; omega)]
  · rw [wipe_out hi, wipe_out hi, h i hi]
theorem Rl.wipe {K : PySem.W.Frag} {F B H : Hp} {W : Option Wl} {σ : L2.St} {env : Env} {n : Nat} (r : Rl K F B W σ H env n) (vs : List Nat) : Rl K F B W (L2.wipe σ vs) H (wipeE env vs) n := by
  refine ⟨r.zn, r.wo, fun i e he => ?_, fun i j e e' v hij h1 h2 m1 m2 h3 h4 => ?_, by rw [wipeE_length, wipe_length, r.le]⟩
  · obtain ⟨h1, h2⟩ := wipeE_some he
    rw [wipe_out h2]
    exact r.sl i e h1
  · exact r.ap i j e e' v hij (wipeE_some h1).1 (wipeE_some h2).1 m1 m2 (wipe_some h3).1 (wipe_some h4).1
/-- others' part widened -/
theorem Rl.others {K : PySem.W.Frag} {F B H : Hp} {W : Option Wl} {σ : L2.St} {env : Env} {n : Nat} {p : Addr} {u : HO} (r : Rl K F B W σ H env n) (h : H p = some u) (f : F p = none)
    (w : Nch W p) (o : ∀ (i : Nat) (e : En), env[i]? = some (some e) → e.mut = true → σ[i]? ≠ some (some (.ref p))) : Rl K F (upd B p u) W σ H env n := by
  refine ⟨⟨r.zn.ff, same_upd r.zn.bb h, fun a x e => ?_⟩, ?_, fun i e he => ?_, r.ap, r.le⟩
  · by_cases z : a = p
    · rw [z]; exact f
    · rw [upd_ne z] at e
      exact r.zn.dj a x e
  · have q := r.wo
    cases W with
    | none => trivial
    | some x =>
      obtain ⟨h1, h2, h3⟩ := q
      refine ⟨h1, h2, fun y c => ⟨(h3 y c).1, ?_⟩⟩
      rw [upd_ne (show y ≠ p from fun z => w x rfl (z ▸ c))]
      exact (h3 y c).2
  · obtain ⟨v, h1, h2⟩ := r.sl i e he
    refine ⟨v, h1, ?_⟩
    cases e with
    | val d => exact h2
    | own ds =>
      obtain ⟨a, xs, rfl, q1, q2, q3, q4⟩ := h2
      have : a ≠ p := fun z => o i _ he rfl (by rw [h1, z])
      exact ⟨a, xs, rfl, q1, q2, q3, by rw [upd_ne this]; exact q4⟩
    | dct kvs =>
      obtain ⟨a, rfl, q3, q4, q⟩ := h2
      have : a ≠ p := fun z => o i _ he rfl (by rw [h1, z])
      exact ⟨a, rfl, q3, ⟨by rw [upd_ne this]; exact q4.1, q4.2⟩, q⟩
    | wdr ws => exact h2
    | scr ns => exact h2
    | tabv d => exact h2
/-- a change of what is neither frozen nor others' nor the def's -/
theorem Rl.upd_out {K : PySem.W.Frag} {F B H : Hp} {W : Option Wl} {σ : L2.St} {env : Env} {n : Nat} {p : Addr} {u : HO} (r : Rl K F B W σ H env n) (f : F p = none) (b : B p = none) (hc : ∀ o, H p = some o → ¬ Wl.IsCode o)
    (w : Nch W p) (o : ∀ (i : Nat) (e : En), env[i]? = some (some e) → e.mut = true → σ[i]? ≠ some (some (.ref p))) : Rl K F B W σ (upd H p u) env n := by
  refine ⟨⟨same_mut r.zn.ff f, same_mut r.zn.bb b, r.zn.dj⟩, ?_, fun i e he => ?_, r.ap, r.le⟩
  · have q := r.wo
    cases W with
    | none => trivial
    | some x =>
      obtain ⟨h1, h2, h3⟩ := q
      exact ⟨Wl.upd_now h1 (w x rfl) hc, h2, h3⟩
  · obtain ⟨v, h1, h2⟩ := r.sl i e he
    refine ⟨v, h1, ?_⟩
    cases e with
    | val d => exact h2
    | own ds =>
      obtain ⟨a, xs, rfl, q1, q2, q3, q4⟩ := h2
      have : a ≠ p := fun z => o i _ he rfl (by rw [h1, z])
      exact ⟨a, xs, rfl, by rw [upd_ne this]; exact q1, q2, q3, q4⟩
    | dct kvs =>
      obtain ⟨a, rfl, q3, q4, q⟩ := h2
      have : a ≠ p := fun z => o i _ he rfl (by rw [h1, z])
      refine ⟨a, rfl, q3, q4, ?_⟩
      rw [upd_ne this]
      exact q
    | wdr ws => exact h2
    | scr ns => exact h2
    | tabv d => exact h2
theorem Rl.restore {K : PySem.W.Frag} {F B H F' B' H' : Hp} {W : Option Wl} {σ σ2 : L2.St} {env env2 : Env} {n n2 : Nat} (r : Rl K F B W σ H env n) (f : Same F F') (r2 : Rl K F' B' W σ2 H' env2 n2) (sb : Same B B')
    (hm : ∀ (i : Nat) (e : En), env[i]? = some (some e) → e.mut = true → env2[i]? = some (some e) ∧ σ2[i]? = σ[i]?) : Rl K F' B W σ H' env n2 := by
  have bn : ∀ a, B' a = none → B a = none := fun a h => same_none sb h
  refine ⟨⟨r2.zn.ff, sb.trans r2.zn.bb, fun a x e => r2.zn.dj a x (sb _ _ e)⟩, ?_, fun i e he => ?_, r.ap, r.le⟩
  · have q := r2.wo
    cases W with
    | none => trivial
    | some x =>
      obtain ⟨h1, h2, h3⟩ := q
      exact ⟨h1, h2, fun y c => ⟨(h3 y c).1, bn _ (h3 y c).2⟩⟩
  · obtain ⟨v, h1, h2⟩ := r.sl i e he
    by_cases hmt : e.mut = true
    · obtain ⟨q1, q2⟩ := hm i e he hmt
      obtain ⟨v', h3, h4⟩ := r2.sl i e q1
      rw [q2] at h3
      refine ⟨v', h3, ?_⟩
      cases e with
      | own ds =>
        obtain ⟨a, xs, e, z1, z2, z3, z4⟩ := h4
        exact ⟨a, xs, e, z1, z2, z3, ⟨bn _ z4.1, z4.2⟩⟩
      | dct kvs =>
        obtain ⟨a, e, z3, z4, z⟩ := h4
        exact ⟨a, e, z3, ⟨bn _ z4.1, z4.2⟩, z⟩
      | wdr ws => exact h4
      | val d => cases hmt
      | scr ns => cases hmt
      | tabv d => cases hmt
    · refine ⟨v, h1, ?_⟩
      cases e with
      | val d => exact Rp.mono f h2
      | scr ns =>
        obtain ⟨a, e, h⟩ := h2
        exact ⟨a, e, f.seq h⟩
      | tabv d => exact ⟨Rp.mono f h2.1, h2.2⟩
      | _ => exact absurd rfl hmt
theorem noMut_at {env : Env} {vs : List Nat} (h : noMut env vs = true) {i : Nat} {e : En} (he : env[i]? = some (some e)) (hm : e.mut = true) : i ∉ vs := fun z => by
  have q := List.all_eq_true.mp h i z
  rw [he] at q
  simp [hm] at q
/-- the own dict of the draws, or not -/
theorem Go.at {W : Option Wl} {F H F' H' : Hp} {p : Addr} {o : HO} (g : Go W F H F' H') (h : H p = some o) (w : Nch W p) : H' p = some o := g.h p o h w
theorem rd_lc {K : PySem.W.Frag} {src : AM} {p : Pt} {t : TM} {m : DM} {vs : List Nat} (hp : ∀ i ∈ p.slots, i ∈ vs) {σ : L2.St} {H : Hp} {Q : VK} (h : rdF K (dLc src p t m vs) σ H Q) : tLc (rdI K src) (gOf K p) (rdT K t) (rdE K m) vs σ H Q := by
  obtain ⟨F, B, W, env, n, es, n', rl, e, k⟩ := h
  obtain ⟨ds, n1, e1, e⟩ := bnd_some e
  split at e
  case isFalse => cases e
  rename_i hg
  obtain ⟨hlim, hnm⟩ := hg
  refine ⟨F, B, W, env, n, ds, n1, rl, e1, fun J F1 H1 g1 rl1 wk D hD => ?_⟩
  have hDH : H D = none := g1.keepNone rl rl1 hD
  have wD : Nch W D := rl1.wo.ne hD
  have oD := rl1.mut_ne hD
  refine ⟨fun i k H' => k = ds.length - i ∧ i ≤ ds.length ∧ ∃ F' n2 xs done rest, Go W F1 H1 F' H' ∧ H' D = some (.lst xs) ∧ F' D = none ∧ RpAll K F' xs done ∧ lcLoop p t m (wipeE env vs) (ds.drop i) n2 = some (rest, n') ∧ es = done ++ rest ∧ xs.length ≤ i ∧ Rl K F' B W σ H' env n2,
    ⟨ds.length, by simp, Nat.zero_le _, F1, n1, [], [], es, .of (.mine rl1.zn.ff hD), upd_same, same_none rl1.zn.ff hD, .nil, by simpa using e, rfl, Nat.zero_le _, rl1.gr (.mine rl1.zn.ff hD)⟩, ?_⟩
  rintro i k2 H' ⟨rfl, hi, F', n2, xs, done, rest, g, hHD, hFD, ra, lc, rfl, hx, rl2⟩
  by_cases hlt : i < ds.length
  · right
    have hdi : ds.drop i = ds[i] :: ds.drop (i + 1) := List.drop_eq_getElem_cons hlt
    have bD : B D = none := same_none rl1.zn.bb hD
    refine ⟨wk.go i H' (g.f.trans rl2.zn.ff) hlt, fun H2 => ∃ F2 n3 xs2 done2 rest2, Go W F1 H1 F2 H2 ∧ H2 D = some (.lst xs2) ∧ F2 D = none ∧ RpAll K F2 xs2 done2 ∧ lcLoop p t m (wipeE env vs) (ds.drop (i + 1)) n3 = some (rest2, n') ∧ done ++ rest = done2 ++ rest2 ∧ xs2.length ≤ i + 1 ∧ Rl K F2 B W σ H2 env n3, ?_, ?_⟩
    · rintro H2 ⟨F2, n3, xs2, done2, rest2, q1, q2, q3, q4, q5, q6, q7, q8⟩
      exact ⟨ds.length - (i + 1), by omega, rfl, hlt, F2, n3, xs2, done2, rest2, q1, q2, q3, q4, q5, q6, q7, q8⟩
    · intro x H3 hy
      obtain ⟨d, F3, hd, gr, rp⟩ := wk.yld i F' H' x H3 g.f rl2.zn.ff hlt hy
      have hdd : ds[i] = d := by
        rw [List.getElem?_eq_getElem hlt] at hd
        exact Option.some.inj hd
      rw [hdi, hdd] at lc
      have rl3 := rl2.gr gr
      have hD3 := gr.h _ _ hHD
      have fD3 := gr.o _ _ hHD hFD
      have rl4 := (rl3.others hD3 fD3 wD oD).wipe vs
      obtain ⟨e1, hb, lc⟩ := lcLoop_cons lc
      refine rd_pt p d _ e1 _ x _ rl4 rp hb fun σ2 rl5 out => ⟨?_, ?_⟩
      · rw [wipe_eq out.1 fun j hj => (out.2 j fun z => hj (hp j z)).1]
        exact wipe_eq (wipe_length _ _) fun j hj => wipe_out hj
      obtain ⟨b, n3, ht, lc⟩ := bnd_some lc
      have hm : ∀ (j : Nat) (e : En), env[j]? = some (some e) → e.mut = true → e1[j]? = some (some e) ∧ σ2[j]? = σ[j]? := fun j e he hm => by
        have q := noMut_at hnm he hm
        have o := out.2 j fun z => q (hp j z)
        exact ⟨by rw [o.2, wipeE_out q]; exact he, by rw [o.1, wipe_out q]⟩
      refine ⟨F3, _, W, e1, n2, b, n3, rl5, ht, fun F4 H4 g4 rl6 => ?_⟩
      have hD4 : H4 D = some (.lst xs) := rl6.zn.bb D _ upd_same
      have fD4 : F4 D = none := rl6.zn.dj D _ upd_same
      have rl7 : Rl K F4 B W σ H4 env n3 := rl3.restore g4.f rl6 (same_new bD) hm
      have g5 : Go W F1 H1 F4 H4 := (g.trans (.of gr)).trans g4
      cases b with
      | false =>
        simp only [Bool.false_eq_true, if_false] at lc ⊢
        exact ⟨F4, n3, xs, done, rest, g5, hD4, fD4, (ra.mono gr.f).mono g4.f, lc, rfl, by omega, rl7⟩
      | true =>
        simp only [if_true] at lc ⊢
        obtain ⟨v, n4, hme, lc⟩ := bnd_some lc
        obtain ⟨rest2, n5, lc, e5⟩ := bnd_some lc
        obtain ⟨rfl, rfl⟩ := ret_some e5
        refine ⟨F4, _, W, e1, n3, v, n4, rl6, hme, fun y F5 H5 g6 rl8 py => ?_⟩
        have hD5 : H5 D = some (.lst xs) := rl8.zn.bb D _ upd_same
        have fD5 : F5 D = none := rl8.zn.dj D _ upd_same
        have rl9 : Rl K F5 B W σ H5 env n4 := rl7.restore g6.f rl8 (same_new bD) hm
        have g7 := g5.trans g6
        refine ⟨xs, hD5, lim_lt (by omega), F5, n4, xs ++ [y], done ++ [v], rest2, ⟨g7.f, fun a o e z => ?_⟩, upd_same, fD5, (((ra.mono gr.f).mono g4.f).mono g6.f).append (.one py), lc, by simp, by simp; omega, rl9.upd_out fD5 bD (Wl.lst_code hD5) wD oD⟩
        rw [upd_ne (ne_of_none e hD)]
        exact g7.h a o e z
  · left
    have : i = ds.length := by omega
    subst this
    rw [List.drop_length] at lc
    obtain ⟨rfl, rfl⟩ := ret_some lc
    refine ⟨wk.stop H' (g.f.trans rl2.zn.ff), ?_⟩
    rw [List.append_nil] at k
    exact k D xs F' H' (g1.trans g) rl2 hDH hHD hFD ra
end DL

/-! DL, part d: comprehensions as judgements, statements, loops, defs and their calls. -/
namespace DL
open PySem PySem.Spec PyProof.Rows L2

section
variable {X : Cx} {e : Expr}
theorem fe_lc {src : AM} {p : Pt} {t : TM} {m : DM} {vs : List Nat} (h : PE X e (tLc (rdI X.K src) (gOf X.K p) (rdT X.K t) (rdE X.K m) vs)) (hp : ∀ i ∈ p.slots, i ∈ vs := by decide) : FE X e (dLc src p t m vs) := h.imp fun _ _ _ h => rd_lc hp h
def tTrue : TM := fun _ => ret true
theorem _root_.L2.PTs.imp {es : List Expr} {t t' : TT} (h : PTs X es t) (k : ∀ σ H Q, t' σ H Q → t σ H Q) : PTs X es t' := ⟨fun pins s σ H Q I w => h.run pins s σ H Q I (k σ H Q w)⟩
theorem dts_nil : PTs X [] (rdT X.K tTrue) := pts_nil.imp fun σ H Q ⟨F, B, W, env, n, d, n', rl, e, k⟩ => by
  obtain ⟨rfl, rfl⟩ := ret_some e
  exact k F H .refl rl
theorem dts_one {c : Expr} {t : TM} (h : DT X c t) : PTs X [c] (rdT X.K t) := pts_one h
end

/-! ### statements -/
inductive Fl where
  | nx (e : Env)
  | ct (e : Env)
  | bk (e : Env)
  | rt (d : PyData)
abbrev SM := Env → OM Fl
def endS (K : PySem.W.Frag) (F B : Hp) (W : Option Wl) (n : Nat) (D : Ends) : Fl → Prop
  | .nx e => ∀ σ F' H, Same F F' → Rl K F' B W σ H e n → D.nx σ H
  | .ct e => ∀ σ F' H, Same F F' → Rl K F' B W σ H e n → D.ct σ H
  | .bk e => ∀ σ F' H, Same F F' → Rl K F' B W σ H e n → D.bk σ H
  | .rt d => ∀ v F' H, Same F F' → Zn F' B H → WOk F' B H n W → Rp K F' v d → D.rt v H
def rdS (K : PySem.W.Frag) (m : SM) : TS := fun D σ H => ∃ F B W env n r n', Rl K F B W σ H env n ∧ m env n = some (r, n') ∧ endS K F B W n' D r
abbrev DS (X : Cx) (st : Stmt) (m : SM) : Prop := PS X st (rdS X.K m)
abbrev DSs (X : Cx) (st : List Stmt) (m : SM) : Prop := PSs X st (rdS X.K m)
theorem endS.mono {K : PySem.W.Frag} {F F' B : Hp} {W : Option Wl} {n : Nat} {D : Ends} {r : Fl} (s : Same F F') (h : endS K F B W n D r) : endS K F' B W n D r := by
  cases r with
  | rt d => exact fun v F2 H s2 z w p => h v F2 H (s.trans s2) z w p
  | _ => exact fun σ F2 H s2 r => h σ F2 H (s.trans s2) r
def sPass : SM := fun env => ret (.nx env)
def sBrk : SM := fun env => ret (.bk env)
def sCnt : SM := fun env => ret (.ct env)
def sFail : SM := fun _ => fail
def sSeq (s t : SM) : SM := fun env => bnd (s env) fun r => match r with
  | .nx e => t e
  | .ct e => ret (.ct e)
  | .bk e => ret (.bk e)
  | .rt d => ret (.rt d)
def sRet (m : DM) : SM := fun env => bnd (m env) fun d => ret (.rt d)
def sDrop (m : DM) : SM := fun env => bnd (m env) fun _ => ret (.nx env)
def sIf (t : TM) (a b : SM) : SM := fun env => bnd (t env) fun c => if c = true then a env else b env
def sAsg (p : Pt) (m : DM) : SM := fun env => bnd (m env) fun d => match bindP p d env with
  | none => fail
  | some e => ret (.nx e)
/-- a new list, one's own | a new list to read alone -/
def sAsgF (i : Nat) (m : AM) : SM := fun env => bnd (m env) fun ds => ret (.nx (env.set i (some (.own ds))))
def sPar (i j : Nat) (m : AM) : SM := fun env => bnd (m env) fun ds => match ds with
  | [a, b] => ret (.nx ((env.set i (some (.val a))).set j (some (.val b))))
  | _ => fail
def sPar3 (i j k : Nat) (m : AM) : SM := fun env => bnd (m env) fun ds => match ds with
  | [a, b, c] => ret (.nx (((env.set i (some (.val a))).set j (some (.val b))).set k (some (.val c))))
  | _ => fail
def sAugI (i : Nat) (f : Int → Int → Int) (m : DM) : SM := fun env => bnd (m env) fun d => match getV env i, d with
  | some (.int a), .int b => ret (.nx (env.set i (some (.val (.int (f a b))))))
  | _, _ => fail
section
variable {X : Cx} {st : Stmt} {sts : List Stmt} {m : DM} {s t : SM} {e : Expr} {pos : Pos}
theorem ds_pass : DS X (.Pass pos) sPass := ps_pass.imp fun D σ H ⟨F, B, W, env, n, r, n', rl, e, k⟩ => by
  obtain ⟨rfl, rfl⟩ := ret_some e
  exact k σ F H (.refl _) rl
theorem ds_break : DS X (.Break pos) sBrk := ps_break.imp fun D σ H ⟨F, B, W, env, n, r, n', rl, e, k⟩ => by
  obtain ⟨rfl, rfl⟩ := ret_some e
  exact k σ F H (.refl _) rl
theorem ds_cont : DS X (.Continue pos) sCnt := ps_continue.imp fun D σ H ⟨F, B, W, env, n, r, n', rl, e, k⟩ => by
  obtain ⟨rfl, rfl⟩ := ret_some e
  exact k σ F H (.refl _) rl
theorem ds_never : DS X st sFail := ps_never.imp fun D σ H ⟨F, B, W, env, n, r, n', rl, e, k⟩ => by cases e
theorem dss_nil : DSs X [] sPass := pss_nil.imp fun D σ H ⟨F, B, W, env, n, r, n', rl, e, k⟩ => by
  obtain ⟨rfl, rfl⟩ := ret_some e
  exact k σ F H (.refl _) rl
theorem dss_one (h : DS X st s) : DSs X [st] s := pss_one h
theorem dss_cons (h : DS X st s) (h2 : DSs X sts t) : DSs X (st :: sts) (sSeq s t) := (pss_cons h h2).imp fun D σ H ⟨F, B, W, env, n, r, n', rl, e, k⟩ => by
  obtain ⟨r1, n1, e1, e⟩ := bnd_some e
  refine ⟨F, B, W, env, n, r1, n1, rl, e1, ?_⟩
  cases r1 with
  | nx e2 => exact fun σ2 F2 H2 s2 rl2 => ⟨F2, B, W, e2, n1, r, n', rl2, e, k.mono s2⟩
  | ct e2 =>
    obtain ⟨rfl, rfl⟩ := ret_some e
    exact k
  | bk e2 =>
    obtain ⟨rfl, rfl⟩ := ret_some e
    exact k
  | rt d =>
    obtain ⟨rfl, rfl⟩ := ret_some e
    exact k
theorem ds_ret (h : DE X e m) : DS X (.Return (some e) pos) (sRet m) := (ps_ret h).imp fun D σ H ⟨F, B, W, env, n, r, n', rl, e, k⟩ => by
  obtain ⟨d, n1, e1, e⟩ := bnd_some e
  obtain ⟨rfl, rfl⟩ := ret_some e
  exact ⟨F, B, W, env, n, d, _, rl, e1, fun v F1 H1 g rl1 p => k v F1 H1 g.f rl1.zn rl1.wo p⟩
theorem ds_drop (h : DE X e m) (hs : swapsWith e none pos.line X.env = pure false := by rfl) : DS X (.Expr e pos) (sDrop m) := (ps_expr h hs).imp fun D σ H ⟨F, B, W, env, n, r, n', rl, e, k⟩ => by
  obtain ⟨d, n1, e1, e⟩ := bnd_some e
  obtain ⟨rfl, rfl⟩ := ret_some e
  exact ⟨F, B, W, env, n, d, _, rl, e1, fun v F1 H1 g rl1 p => k σ F1 H1 g.f rl1⟩
theorem ds_if {c : Expr} {a b : List Stmt} {tc : TM} (hc : DT X c tc) (ha : DSs X a s) (hb : DSs X b t) : DS X (.If c a b pos) (sIf tc s t) := (ps_if hc ha hb).imp fun D σ H ⟨F, B, W, env, n, r, n', rl, e, k⟩ => by
  obtain ⟨c, n1, e1, e⟩ := bnd_some e
  refine ⟨F, B, W, env, n, c, n1, rl, e1, fun F1 H1 g rl1 => ?_⟩
  cases c with
  | true =>
    simp only [if_true] at e ⊢
    exact ⟨F1, B, W, env, n1, r, n', rl1, e, k.mono g.f⟩
  | false =>
    simp only [Bool.false_eq_true, if_false] at e ⊢
    exact ⟨F1, B, W, env, n1, r, n', rl1, e, k.mono g.f⟩
theorem ds_asg {p : Pt} (h : PS X st (tAsg (rdE X.K m) (gOf X.K p))) : DS X st (sAsg p m) := h.imp fun D σ H ⟨F, B, W, env, n, r, n', rl, e, k⟩ => by
  obtain ⟨d, n1, e1, e⟩ := bnd_some e
  refine ⟨F, B, W, env, n, d, n1, rl, e1, fun v F1 H1 g rl1 pv => ?_⟩
  cases hb : bindP p d env with
  | none =>
    simp only [hb, fail] at e
    cases e
  | some e2 =>
    simp only [hb] at e
    obtain ⟨rfl, rfl⟩ := ret_some e
    exact rd_pt p d env _ σ v _ rl1 pv hb fun σ' rl2 _ => k σ' F1 H1 g.f rl2
theorem Rl.setOwn {K : PySem.W.Frag} {F B H : Hp} {W : Option Wl} {σ : L2.St} {env : Env} {n : Nat} {p : Addr} {e0 : En} (i : Nat) (r : Rl K F B W σ H env n) (h : EnOk K F B H W e0 (.ref p))
    (o : ∀ (j : Nat) (e : En), j ≠ i → env[j]? = some (some e) → e.mut = true → σ[j]? ≠ some (some (.ref p))) : Rl K F B W (σ.set i (some (.ref p))) H (env.set i (some e0)) n := by
  refine ⟨r.zn, r.wo, fun j e he => ?_, fun j k e e' u hjk h1 h2 m1 m2 h3 h4 => ?_, by simp [r.le]⟩
  · by_cases hij : i = j
    · subst hij
      by_cases hl : i < env.length
      · rw [List.getElem?_set_self hl] at he
        cases he
        exact ⟨_, List.getElem?_set_self (by rw [← r.le]; exact hl), h⟩
      · rw [List.getElem?_eq_none (by simpa using hl)] at he
        cases he
    · rw [List.getElem?_set_ne hij] at he ⊢
      exact r.sl j e he
  · have up : ∀ (j : Nat) (x : V), (σ.set i (some (V.ref p)))[j]? = some (some x) → i = j → x = .ref p := fun j x q z => by
      subst z
      by_cases hl : i < σ.length
      · rw [List.getElem?_set_self hl] at q
        cases q
        rfl
      · rw [List.getElem?_eq_none (by simpa using hl)] at q
        cases q
    by_cases n1 : i = j
    · have n2 : i ≠ k := fun z => hjk (n1.symm.trans z)
      have hu := up j u h3 n1
      subst hu
      rw [List.getElem?_set_ne n2] at h2 h4
      exact o k e' (Ne.symm n2) h2 m2 h4
    · rw [List.getElem?_set_ne n1] at h1 h3
      by_cases n2 : i = k
      · have hu := up k u h4 n2
        subst hu
        exact o j e (Ne.symm n1) h1 m1 h3
      · rw [List.getElem?_set_ne n2] at h2 h4
        exact r.ap j k e e' u hjk h1 h2 m1 m2 h3 h4
/-- the names that are one's own are not a new thing's -/
theorem fresh_ne {K : PySem.W.Frag} {F B H : Hp} {W : Option Wl} {σ : L2.St} {env : Env} {n : Nat} {p : Addr} (r : Rl K F B W σ H env n) (h : H p = none) (i : Nat) : ∀ (j : Nat) (e : En), j ≠ i → env[j]? = some (some e) → e.mut = true → σ[j]? ≠ some (some (.ref p)) := fun j e _ he hm => r.mut_ne h j e he hm
theorem ds_asgF {i : Nat} {m : AM} (h : PS X st (tAsg (rdF X.K m) (gName i))) : DS X st (sAsgF i m) := h.imp fun D σ H ⟨F, B, W, env, n, r, n', rl, e, k⟩ => by
  obtain ⟨ds, n1, e1, e⟩ := bnd_some e
  obtain ⟨rfl, rfl⟩ := ret_some e
  refine ⟨F, B, W, env, n, ds, _, rl, e1, fun p xs F1 H1 g rl1 hp hp1 fp ra => ?_⟩
  exact k _ F1 H1 g.f (rl1.setOwn i ⟨p, xs, rfl, hp1, ra, fp, ⟨same_none rl.zn.bb hp, rl.wo.ne hp⟩⟩ (fresh_ne rl hp i))
theorem ds_par {i j : Nat} {m : AM} (h : PS X st (tPar i j (rdA X.K m))) : DS X st (sPar i j m) := h.imp fun D σ H ⟨F, B, W, env, n, r, n', rl, e, k⟩ => by
  obtain ⟨ds, n1, e1, e⟩ := bnd_some e
  refine ⟨F, B, W, env, n, ds, n1, rl, e1, fun vs F1 H1 g rl1 p => ?_⟩
  cases p with
  | nil => cases e
  | @cons v vs d ds h1 p =>
    cases p with
    | nil => cases e
    | @cons v2 vs d2 ds h2 p =>
      cases p with
      | cons _ _ => cases e
      | nil =>
        obtain ⟨rfl, rfl⟩ := ret_some e
        exact ⟨v, v2, rfl, k _ F1 H1 g.f ((rl1.set i h1).set j h2)⟩
theorem ds_par3 {i j l : Nat} {m : AM} (h : PS X st (tPar3 i j l (rdA X.K m))) : DS X st (sPar3 i j l m) := h.imp fun D σ H ⟨F, B, W, env, n, r, n', rl, e, k⟩ => by
  obtain ⟨ds, n1, e1, e⟩ := bnd_some e
  refine ⟨F, B, W, env, n, ds, n1, rl, e1, fun vs F1 H1 g rl1 p => ?_⟩
  cases p with
  | nil => cases e
  | @cons v vs d ds h1 p =>
    cases p with
    | nil => cases e
    | @cons v2 vs d2 ds h2 p =>
      cases p with
      | nil => cases e
      | @cons v3 vs d3 ds h3 p =>
        cases p with
        | cons _ _ => cases e
        | nil =>
          obtain ⟨rfl, rfl⟩ := ret_some e
          exact ⟨v, v2, v3, rfl, k _ F1 H1 g.f (((rl1.set i h1).set j h2).set l h3)⟩
theorem ds_aug {i : Nat} {f : Int → Int → Int} (h : PS X st (tAug i (rdE X.K m) (ipI f))) : DS X st (sAugI i f m) := h.imp fun D σ H ⟨F, B, W, env, n, r, n', rl, e, k⟩ => by
  obtain ⟨d, n1, e1, e⟩ := bnd_some e
  obtain ⟨a, b, hv, rfl, e2⟩ : ∃ a b, getV env i = some (.int a) ∧ d = .int b ∧ ret (Fl.nx (env.set i (some (.val (.int (f a b)))))) n1 = some (r, n') := by
    cases hv : getV env i with
    | none => simp only [hv, fail] at e; cases e
    | some x =>
      cases x with
      | int a =>
        cases d with
        | int b =>
          simp only [hv] at e
          exact ⟨a, b, rfl, rfl, e⟩
        | _ => simp only [hv, fail] at e; cases e
      | _ => simp only [hv, fail] at e; cases e
  obtain ⟨rfl, rfl⟩ := ret_some e2
  obtain ⟨v, h1, h2⟩ := rl.sl i _ (getV_some hv)
  have h2 : Rp X.K F v (.int a) := h2
  rw [h2.int_inv] at h1
  refine ⟨.int a, h1, F, B, W, env, n, .int b, _, rl, e1, fun v F1 H1 g rl1 p => ?_⟩
  rw [p.int_inv]
  exact ⟨a, b, rfl, rfl, k _ F1 H1 g.f (rl1.set i (.int _))⟩

/-! ### loops -/
def forLoop (p : Pt) (s : SM) : List PyData → Env → OM Fl
  | [], env => ret (.nx env)
  | d :: ds, env => match bindP p d env with
    | none => fail
    | some e => bnd (s e) fun r => match r with
      | .nx e2 => forLoop p s ds e2
      | .ct e2 => forLoop p s ds e2
      | .bk e2 => ret (.nx e2)
      | .rt d => ret (.rt d)
def sFor (src : AM) (p : Pt) (s : SM) : SM := fun env => bnd (src env) fun ds => forLoop p s ds env
theorem forLoop_cons {p : Pt} {s : SM} {d : PyData} {ds : List PyData} {env : Env} {n n' : Nat} {r : Fl} (h : forLoop p s (d :: ds) env n = some (r, n')) :
    ∃ e, bindP p d env = some e ∧ bnd (s e) (fun r => match r with
      | .nx e2 => forLoop p s ds e2
      | .ct e2 => forLoop p s ds e2
      | .bk e2 => ret (.nx e2)
      | .rt d => ret (.rt d)) n = some (r, n') := by
  cases hb : bindP p d env with
  | none =>
    simp only [forLoop, hb, fail] at h
    cases h
  | some e =>
    simp only [forLoop, hb] at h
    exact ⟨e, rfl, h⟩
theorem ds_for {src : AM} {p : Pt} (h : PS X st (tFor (rdI X.K src) (gOf X.K p) (rdS X.K s))) : DS X st (sFor src p s) := h.imp fun D σ H ⟨F, B, W, env, n, r, n', rl, e, k⟩ => by
  obtain ⟨ds, n1, e1, e⟩ := bnd_some e
  refine ⟨F, B, W, env, n, ds, n1, rl, e1, fun J F1 H1 g rl1 wk => ?_⟩
  have k := k.mono g.f
  refine ⟨fun i m σ2 H2 => m = ds.length - i ∧ i ≤ ds.length ∧ ∃ F2 env2 n2, Same F1 F2 ∧ Rl X.K F2 B W σ2 H2 env2 n2 ∧ forLoop p s (ds.drop i) env2 n2 = some (r, n'), ⟨ds.length, by simp, Nat.zero_le _, F1, env, n1, .refl _, rl1, by simpa using e⟩, ?_⟩
  rintro i m σ2 H2 ⟨rfl, hi, F2, env2, n2, s2, rl2, lp⟩
  by_cases hlt : i < ds.length
  · right
    have hdi : ds.drop i = ds[i] :: ds.drop (i + 1) := List.drop_eq_getElem_cons hlt
    refine ⟨wk.go i H2 (s2.trans rl2.zn.ff) hlt, fun σ3 H3 => ∃ F3 env3 n3, Same F1 F3 ∧ Rl X.K F3 B W σ3 H3 env3 n3 ∧ forLoop p s (ds.drop (i + 1)) env3 n3 = some (r, n'), fun σ3 H3 hn => ⟨ds.length - (i + 1), by omega, rfl, hlt, hn⟩, fun x H3 hy => ?_⟩
    obtain ⟨d, F3, hd, gr, rp⟩ := wk.yld i F2 H2 x H3 s2 rl2.zn.ff hlt hy
    have hdd : ds[i] = d := by
      rw [List.getElem?_eq_getElem hlt] at hd
      exact Option.some.inj hd
    rw [hdi, hdd] at lp
    obtain ⟨e2, hb, lp⟩ := forLoop_cons lp
    have s3 := s2.trans gr.f
    refine rd_pt p d env2 e2 σ2 x _ (rl2.gr gr) rp hb fun σ3 rl3 _ => ?_
    obtain ⟨r1, n3, hs, lp⟩ := bnd_some lp
    refine ⟨F3, B, W, e2, n2, r1, n3, rl3, hs, ?_⟩
    cases r1 with
    | nx e3 => exact fun σ4 F4 H4 s4 rl4 => ⟨F4, e3, n3, s3.trans s4, rl4, lp⟩
    | ct e3 => exact fun σ4 F4 H4 s4 rl4 => ⟨F4, e3, n3, s3.trans s4, rl4, lp⟩
    | bk e3 =>
      obtain ⟨rfl, rfl⟩ := ret_some lp
      exact fun σ4 F4 H4 s4 rl4 => k σ4 F4 H4 (s3.trans s4) rl4
    | rt d =>
      obtain ⟨rfl, rfl⟩ := ret_some lp
      exact fun v F4 H4 s4 z w q => k v F4 H4 (s3.trans s4) z w q
  · left
    have : i = ds.length := by omega
    subst this
    rw [List.drop_length] at lp
    obtain ⟨rfl, rfl⟩ := ret_some lp
    exact ⟨wk.stop H2 (s2.trans rl2.zn.ff), k σ2 F2 H2 s2 rl2⟩
def whLoop (t : TM) (s : SM) : Nat → Env → OM Fl
  | 0, _ => fail
  | k + 1, env => bnd (t env) fun b => if b = true then bnd (s env) fun r => match r with
      | .nx e2 => whLoop t s k e2
      | .ct e2 => whLoop t s k e2
      | .bk e2 => ret (.nx e2)
      | .rt d => ret (.rt d)
    else ret (.nx env)
/-- a while of at most so many turns -/
def sWhile (fuel : Nat) (t : TM) (s : SM) : SM := fun env => whLoop t s fuel env
theorem ds_while {fuel : Nat} {tc : TM} (h : PS X st (tWhile (rdT X.K tc) (rdS X.K s))) : DS X st (sWhile fuel tc s) := h.imp fun D σ H ⟨F, B, W, env, n, r, n', rl, e, k⟩ => by
  refine ⟨fun m σ2 H2 => ∃ F2 env2 n2, Same F F2 ∧ Rl X.K F2 B W σ2 H2 env2 n2 ∧ whLoop tc s m env2 n2 = some (r, n'), ⟨fuel, F, env, n, .refl _, rl, e⟩, ?_⟩
  rintro m σ2 H2 ⟨F2, env2, n2, s2, rl2, lp⟩
  cases m with
  | zero => cases lp
  | succ m =>
    obtain ⟨b, n3, ht, lp⟩ := bnd_some (show bnd (tc env2) _ n2 = _ from lp)
    refine ⟨F2, B, W, env2, n2, b, n3, rl2, ht, fun F3 H3 g3 rl3 => ?_⟩
    have s3 := s2.trans g3.f
    cases b with
    | false =>
      simp only [Bool.false_eq_true, if_false] at lp ⊢
      obtain ⟨rfl, rfl⟩ := ret_some lp
      exact k σ2 F3 H3 s3 rl3
    | true =>
      simp only [if_true] at lp ⊢
      obtain ⟨r1, n4, hs, lp⟩ := bnd_some lp
      refine ⟨fun σ4 H4 => ∃ F4 env4 n4, Same F F4 ∧ Rl X.K F4 B W σ4 H4 env4 n4 ∧ whLoop tc s m env4 n4 = some (r, n'), fun σ4 H4 hn => ⟨m, Nat.lt_succ_self _, hn⟩, F3, B, W, env2, n3, r1, n4, rl3, hs, ?_⟩
      cases r1 with
      | nx e3 => exact fun σ4 F4 H4 s4 rl4 => ⟨F4, e3, n4, s3.trans s4, rl4, lp⟩
      | ct e3 => exact fun σ4 F4 H4 s4 rl4 => ⟨F4, e3, n4, s3.trans s4, rl4, lp⟩
      | bk e3 =>
        obtain ⟨rfl, rfl⟩ := ret_some lp
        exact fun σ4 F4 H4 s4 rl4 => k σ4 F4 H4 (s3.trans s4) rl4
      | rt d =>
        obtain ⟨rfl, rfl⟩ := ret_some lp
        exact fun v F4 H4 s4 z w q => k v F4 H4 (s3.trans s4) z w q
end

/-! ### defs -/
def startE (N : Nat) (ds : List PyData) : Env := ds.map (fun d => some (.val d)) ++ List.replicate (N - ds.length) none
/-- what the body hands back for such arguments -/
def runF (body : SM) (N : Nat) : List PyData → Option PyData := fun ds => match body (startE N ds) 0 with
  | some (.rt d, _) => some d
  | some (.nx _, _) => some .none
  | _ => none
def SpP (K : PySem.W.Frag) (k : Nat) (f : List PyData → Option PyData) : Sp := fun vs H Q _ => ∃ F B ds d, Zn F B H ∧ RpAll K F vs ds ∧ ds.length = k ∧ f ds = some d ∧ ∀ v F' H', Same F F' → Zn F' B H' → Rp K F' v d → Q v H'
theorem startE_some {N : Nat} {ds : List PyData} {i : Nat} {e : En} (h : (startE N ds)[i]? = some (some e)) : ∃ d, ds[i]? = some d ∧ e = .val d := by
  unfold startE at h
  by_cases hi : i < ds.length
  · rw [List.getElem?_append_left (by simpa using hi), List.getElem?_map, List.getElem?_eq_getElem hi] at h
    simp at h
    exact ⟨_, List.getElem?_eq_getElem hi, h.symm⟩
  · rw [List.getElem?_append_right (by simpa using hi)] at h
    rw [List.getElem?_replicate] at h
    split at h <;> simp at h
theorem Rl.start {K : PySem.W.Frag} {F B H : Hp} {N : List Str} {vs : List V} {ds : List PyData} (z : Zn F B H) (r : RpAll K F vs ds) : Rl K F B none (L2.start N vs) H (startE N.length ds) 0 := by
  refine ⟨z, trivial, fun i e he => ?_, fun i j e e' v _ h1 _ m1 => ?_, ?_⟩
  · obtain ⟨d, h1, rfl⟩ := startE_some he
    obtain ⟨x, h2, h3⟩ := r.get h1
    refine ⟨x, ?_, h3⟩
    unfold L2.start
    have hi := (List.getElem?_eq_some_iff.mp h2).1
    rw [List.getElem?_append_left (by simpa using hi), List.getElem?_map, h2]
    rfl
  · obtain ⟨d, _, rfl⟩ := startE_some h1
    cases m1
  · unfold startE L2.start
    rw [List.length_append, List.length_append, List.length_map, List.length_map, List.length_replicate, List.length_replicate, r.len]
section
variable {P : Program} {w : World} {K : PySem.W.Frag} {mg : Str → Option Value} {base : Heap}
/-- a def keeps its promise: it hands back what its body's denotation hands back -/
theorem fn_ok {x qual : Str} {st : Stmt} {f : Addr} {fd : FuncData} {N ps : List Str} {k kk nn : Nat} {m : SM} (F : Fun K x qual st f fd) (S : FnScope N ps (defScope st)) (hkk : ps.length = kk) (hnn : N.length = nn)
    (h : ∀ (cdv : Value) (A : Around) (outer : List PySem.Env) (s : Shared) (H : Hp) (E : XK), Room k (A.deeper (envOfC qual (defScope st) s.heap.objs.size f cdv)) → DSs (cxOf CX0 P w K mg base N qual (defScope st) f cdv A outer s H E).nox (defBody st) m) :
    FnOk P w K mg base CX0 (k + 1) f fd ps (SpP K kk (runF m nn)) := by
  subst hkk hnn
  refine F.ok S (fun vs H Q E ⟨F0, B, ds, d, z, r, hl, _⟩ => by rw [r.len, hl]) fun cdv A outer s H vs Q E hr ⟨F0, B, ds, d, z, r, hl, e, kk⟩ => ?_
  refine ⟨rdS K m, h cdv A outer s H E hr, ?_⟩
  unfold runF at e
  split at e
  · rename_i d2 n2 h2
    cases e
    exact ⟨F0, B, none, _, 0, _, _, .start z r, h2, fun v F' H' s z' _ p => kk v F' H' s z' p⟩
  · rename_i e2 n2 h2
    cases e
    exact ⟨F0, B, none, _, 0, _, _, .start z r, h2, fun σ F' H' s rl => kk .non F' H' s rl.zn .non⟩
  · cases e
/-- all that is not frozen, as others' -/
def rest (F H : Hp) : Hp := fun a => match F a with
  | some _ => none
  | none => H a
theorem zn_rest {F H : Hp} (s : Same F H) : Zn F (rest F H) H := by
  refine ⟨s, fun a o e => ?_, fun a o e => ?_⟩
  · unfold rest at e
    split at e
    · cases e
    · exact e
  · unfold rest at e
    split at e
    · cases e
    · assumption
theorem gr_rest {F H F' H' : Hp} (s : Same F H) (f : Same F F') (z : Zn F' (rest F H) H') : Gr F H F' H' := by
  have q : ∀ a o, H a = some o → F a = none → rest F H a = some o := fun a o e n => by
    unfold rest
    rw [n]
    exact e
  refine ⟨f, fun a o e => ?_, z.ff, fun a o e n => z.dj a o (q a o e n)⟩
  cases n : F a with
  | none => exact z.bb a o (q a o e n)
  | some u =>
    have : u = o := by
      have := s a u n
      rw [e] at this
      exact (Option.some.inj this).symm
    subst this
    exact z.ff a _ (f a _ n)
theorem de_call {X : Cx} {e : Expr} {m : AM} {k : Nat} {f : List PyData → Option PyData} {E : XK} (h : PE X e (tCall (SpP X.K k f) [] E (rdA X.K m))) (hk : ∀ env n ds n', m env n = some (ds, n') → ds.length = k) : DE X e (dCallB f m) := h.imp fun σ H Q ⟨F, B, W, env, n, d, n', rl, e, kk⟩ => by
  obtain ⟨ds, n1, e1, e⟩ := bnd_some e
  obtain ⟨e3, rfl⟩ := lift_some e
  refine ⟨F, B, W, env, n, ds, n', rl, e1, fun vs F1 H1 g rl1 r => ?_⟩
  refine ⟨F1, rest F1 H1, ds, d, zn_rest rl1.zn.ff, ?_, hk _ _ _ _ e1, e3, fun v F' H' s z p => ?_⟩
  · rw [List.append_nil]
    exact r
  · have gr := gr_rest rl1.zn.ff s z
    exact kk v F' H' (g.trans (.of gr)) (rl1.gr gr) p
theorem aNil_len {env : Env} {n n' : Nat} {ds : List PyData} (h : aNil env n = some (ds, n')) : ds.length = 0 := by
  obtain ⟨rfl, rfl⟩ := ret_some h
  rfl
theorem aCons_len {m : DM} {r : AM} {k : Nat} (hr : ∀ env n ds n', r env n = some (ds, n') → ds.length = k) : ∀ env n ds n', aCons m r env n = some (ds, n') → ds.length = k + 1 := fun env n ds n' h => by
  obtain ⟨d, n1, _, h⟩ := bnd_some h
  obtain ⟨ds2, n2, h2, h⟩ := bnd_some h
  obtain ⟨rfl, rfl⟩ := ret_some h
  rw [List.length_cons, hr _ _ _ _ h2]
end
end DL

/-! DL, part e: operations on data. -/
namespace DL
open PySem PySem.Spec PyProof.Rows L2

section
variable {K : PySem.W.Frag}
theorem gr_tup {F H : Hp} (s : Same F H) {p : Addr} {xs : List V} {ds : List PyData} (hp : H p = none) (r : RpAll K F xs ds) : Gr F H (upd F p (.tup xs)) (upd H p (.tup xs)) ∧ Rp K (upd F p (.tup xs)) (.ref p) (.tuple ds) :=
  have g : Gr F H (upd F p (.tup xs)) (upd H p (.tup xs)) := .new s hp
  ⟨g, .tup (.of upd_same) (r.mono g.f)⟩
theorem sq_tup {F H : Hp} (s : Same F H) {a : Addr} {xs : List V} (h : SqT K F a xs) : SqT K H a xs := sqt_mono s h

/-! ### sums -/
def addD (x y : PyData) : Option PyData := match x with
  | .int i => match y with
    | .int j => some (.int (i + j))
    | _ => none
  | .str a => match y with
    | .str b => if a.length + b.length ≤ sizeLine then some (.str (a ++ b)) else none
    | _ => none
  | .tuple a => match y with
    | .tuple b => if a.length + b.length ≤ lim then some (.tuple (a ++ b)) else none
    | _ => none
  | _ => none
def rAddA (K : PySem.W.Frag) : R2 := fun x y H Q => (rI0 fun i j => .int (i + j)) x y H Q ∨ ((∃ i j, x = .str i ∧ y = .str j ∧ i.length + j.length ≤ sizeLine ∧ Q (.str (i ++ j)) H) ∨ rCatA K x y H Q)
theorem op_addA {X : Cx} : OpR X (binaryOp .Add) (rAddA X.K) := op_add.or (op_add_str.or op_catA)
theorem r_add : R2D K (rAddA K) addD := fun F H x y d1 d2 d Q s p1 p2 e k => by
  unfold addD at e
  split at e
  · split at e
    · cases e
      rw [p1.int_inv, p2.int_inv]
      exact .inl ⟨_, _, rfl, rfl, k _ F H (.refl s) (.int _)⟩
    · cases e
  · split at e
    · split at e
      · cases e
        rw [p1.str_inv, p2.str_inv]
        exact .inr (.inl ⟨_, _, rfl, rfl, by assumption, k _ F H (.refl s) (.str _)⟩)
      · cases e
    · cases e
  · split at e
    · split at e
      · cases e
        rename_i as _ bs hl
        obtain ⟨a, xs, rfl, h1, r1⟩ := p1.tup_inv
        obtain ⟨b, ys, rfl, h2, r2⟩ := p2.tup_inv
        refine .inr (.inr ⟨a, b, xs, ys, rfl, rfl, sq_tup s h1, sq_tup s h2, by rw [r1.len, r2.len]; exact lim_le hl, fun z => ?_, fun _ z => ?_, fun _ _ p hp => ?_⟩)
        · subst z
          cases r1
          exact k _ F H (.refl s) (.tup h2 r2)
        · subst z
          cases r2
          rw [List.append_nil] at k
          exact k _ F H (.refl s) (.tup h1 r1)
        · have g := gr_tup (K := K) s hp (r1.append r2)
          exact k _ _ _ g.1 g.2
      · cases e
    · cases e
  · cases e
/-- whole numbers alone -/
def intD (C : Int → Int → Bool) (g : Int → Int → PyData) (x y : PyData) : Option PyData := match x with
  | .int i => match y with
    | .int j => if C i j = true then some (g i j) else none
    | _ => none
  | _ => none
theorem intD_some {C : Int → Int → Bool} {g : Int → Int → PyData} {x y d : PyData} (h : intD C g x y = some d) : ∃ i j, x = .int i ∧ y = .int j ∧ C i j = true ∧ d = g i j := by
  unfold intD at h
  split at h
  · split at h
    · split at h
      · cases h
        exact ⟨_, _, rfl, rfl, by assumption, rfl⟩
      · cases h
    · cases h
  · cases h
def subD := intD (fun _ _ => true) fun i j => .int (i - j)
def mulD := intD (fun i j => (decide (-18446744073709551616 < i) && decide (i < 18446744073709551616)) || (decide (-18446744073709551616 < j) && decide (j < 18446744073709551616))) fun i j => .int (i * j)
def fdivD := intD (fun _ j => decide (0 < j) && decide (j < 1073741824)) fun i j => .int (i / j)
def modD := intD (fun _ j => decide (0 < j)) fun i j => .int (i % j)
def ltD := intD (fun _ _ => true) fun i j => .bool (decide (i < j))
def leD := intD (fun _ _ => true) fun i j => .bool (decide (i ≤ j))
def gtD := intD (fun _ _ => true) fun i j => .bool (decide (j < i))
def geD := intD (fun _ _ => true) fun i j => .bool (decide (j ≤ i))
theorem r_sub : R2D K (rI0 fun i j => .int (i - j)) subD := fun F H x y d1 d2 d Q s p1 p2 e k => by
  obtain ⟨i, j, rfl, rfl, _, rfl⟩ := intD_some e
  rw [p1.int_inv, p2.int_inv]
  exact ⟨_, _, rfl, rfl, k _ F H (.refl s) (.int _)⟩
theorem r_mul : R2D K (rI CMul fun i j => .int (i * j)) mulD := fun F H x y d1 d2 d Q s p1 p2 e k => by
  obtain ⟨i, j, rfl, rfl, c, rfl⟩ := intD_some e
  rw [p1.int_inv, p2.int_inv]
  refine ⟨_, _, rfl, rfl, ?_, k _ F H (.refl s) (.int _)⟩
  simp only [Bool.or_eq_true, Bool.and_eq_true, decide_eq_true_eq] at c
  exact c
theorem r_fdiv : R2D K (rI CDiv fun i j => .int (i / j)) fdivD := fun F H x y d1 d2 d Q s p1 p2 e k => by
  obtain ⟨i, j, rfl, rfl, c, rfl⟩ := intD_some e
  rw [p1.int_inv, p2.int_inv]
  refine ⟨_, _, rfl, rfl, ?_, k _ F H (.refl s) (.int _)⟩
  simp only [Bool.and_eq_true, decide_eq_true_eq] at c
  exact c
theorem r_mod : R2D K (rI (fun _ j => 0 < j) fun i j => .int (i % j)) modD := fun F H x y d1 d2 d Q s p1 p2 e k => by
  obtain ⟨i, j, rfl, rfl, c, rfl⟩ := intD_some e
  rw [p1.int_inv, p2.int_inv]
  exact ⟨_, _, rfl, rfl, of_decide_eq_true c, k _ F H (.refl s) (.int _)⟩
theorem r_lt : R2D K (rI0 fun i j => .bl (decide (i < j))) ltD := fun F H x y d1 d2 d Q s p1 p2 e k => by
  obtain ⟨i, j, rfl, rfl, _, rfl⟩ := intD_some e
  rw [p1.int_inv, p2.int_inv]
  exact ⟨_, _, rfl, rfl, k _ F H (.refl s) (.bl _)⟩
theorem r_le : R2D K (rI0 fun i j => .bl (decide (i ≤ j))) leD := fun F H x y d1 d2 d Q s p1 p2 e k => by
  obtain ⟨i, j, rfl, rfl, _, rfl⟩ := intD_some e
  rw [p1.int_inv, p2.int_inv]
  exact ⟨_, _, rfl, rfl, k _ F H (.refl s) (.bl _)⟩
theorem r_gt : R2D K (rI0 fun i j => .bl (decide (j < i))) gtD := fun F H x y d1 d2 d Q s p1 p2 e k => by
  obtain ⟨i, j, rfl, rfl, _, rfl⟩ := intD_some e
  rw [p1.int_inv, p2.int_inv]
  exact ⟨_, _, rfl, rfl, k _ F H (.refl s) (.bl _)⟩
theorem r_ge : R2D K (rI0 fun i j => .bl (decide (j ≤ i))) geD := fun F H x y d1 d2 d Q s p1 p2 e k => by
  obtain ⟨i, j, rfl, rfl, _, rfl⟩ := intD_some e
  rw [p1.int_inv, p2.int_inv]
  exact ⟨_, _, rfl, rfl, k _ F H (.refl s) (.bl _)⟩
/-- great numbers -/
def wideM : Nat := 2 ^ 4000
def mulWD := intD (fun i j => decide (i.natAbs < wideM) && decide (j.natAbs < wideM)) fun i j => .int (i * j)
def fdivWD := intD (fun i j => decide (0 < j) && decide (j.natAbs < wideM)) fun i j => .int (i / j)
theorem r_mulW : R2D K (rI CMulW fun i j => .int (i * j)) mulWD := fun F H x y d1 d2 d Q s p1 p2 e k => by
  obtain ⟨i, j, rfl, rfl, c, rfl⟩ := intD_some e
  rw [p1.int_inv, p2.int_inv]
  simp only [Bool.and_eq_true, decide_eq_true_eq] at c
  exact ⟨_, _, rfl, rfl, wide_mul c.1 c.2 (by decide) (by decide) (by decide), k _ F H (.refl s) (.int _)⟩
theorem r_fdivW : R2D K (rI CDivW fun i j => .int (i / j)) fdivWD := fun F H x y d1 d2 d Q s p1 p2 e k => by
  obtain ⟨i, j, rfl, rfl, c, rfl⟩ := intD_some e
  rw [p1.int_inv, p2.int_inv]
  simp only [Bool.and_eq_true, decide_eq_true_eq] at c
  exact ⟨_, _, rfl, rfl, wide_div c.1 c.2 (by decide) (by decide), k _ F H (.refl s) (.int _)⟩

/-! ### == and != -/
def eqD (x y : PyData) : Option PyData := if (SeqAt.shaped x && SeqAt.shaped y) = true then some (.bool (PyData.eqv x y)) else none
def neD (x y : PyData) : Option PyData := if (SeqAt.shaped x && SeqAt.shaped y) = true then some (.bool (!PyData.eqv x y)) else none
theorem Lp.dp {F H : Hp} {v : V} {d : PyData} (s : Same F H) (h : Lp K F H v d) (c : SeqAt.shaped d = true) : Dp K H v d := (h.weak s).dp (SeqAt.canLay_of_shaped c)
theorem r_eq : R2D K (rEqD K) eqD := fun F H x y d1 d2 d Q s p1 p2 e k => by
  unfold eqD at e
  split at e
  · cases e
    rename_i c
    simp only [Bool.and_eq_true] at c
    exact ⟨d1, d2, p1.dp s c.1, p2.dp s c.2, c.1, c.2, k _ F H (.refl s) (.bl _)⟩
  · cases e
theorem r_ne : R2D K (rNeD K) neD := fun F H x y d1 d2 d Q s p1 p2 e k => by
  unfold neD at e
  split at e
  · cases e
    rename_i c
    simp only [Bool.and_eq_true] at c
    exact ⟨d1, d2, p1.dp s c.1, p2.dp s c.2, c.1, c.2, k _ F H (.refl s) (.bl _)⟩
  · cases e
/-- is None -/
def isNone : PyData → Bool
  | .none => true
  | _ => false
def isD (x y : PyData) : Option PyData := match y with
  | .none => some (.bool (isNone x))
  | _ => none
def isntD (x y : PyData) : Option PyData := match y with
  | .none => some (.bool (!isNone x))
  | _ => none
theorem Lp.isNone {F H : Hp} {v : V} {d : PyData} (h : Lp K F H v d) : decide (v = .non) = DL.isNone d := by
  rcases h with h | ⟨a, xs, ds, rfl, rfl, _⟩
  · cases h <;> rfl
  · rfl
theorem r_is : R2D K (fun x y H Q => y = .non ∧ Q (.bl (decide (x = .non))) H) isD := fun F H x y d1 d2 d Q s p1 p2 e k => by
  unfold isD at e
  split at e
  · cases e
    refine ⟨p2.non_inv, ?_⟩
    rw [p1.isNone]
    exact k _ F H (.refl s) (.bl _)
  · cases e
theorem r_isnt : R2D K (fun x y H Q => y = .non ∧ Q (.bl (!decide (x = .non))) H) isntD := fun F H x y d1 d2 d Q s p1 p2 e k => by
  unfold isntD at e
  split at e
  · cases e
    refine ⟨p2.non_inv, ?_⟩
    rw [p1.isNone]
    exact k _ F H (.refl s) (.bl _)
  · cases e
/-! ### in, of flat things -/
def flat : PyData → Bool
  | .none => true
  | .bool _ => true
  | .int _ => true
  | .str _ => true
  | _ => false
def seqOf : PyData → Option (List PyData)
  | .list ds => some ds
  | .tuple ds => some ds
  | _ => none
def inD (x y : PyData) : Option PyData := match seqOf y with
  | some ds => if (flat x && ds.all flat) = true then some (.bool (ds.any fun z => PyData.eqv z x)) else none
  | none => none
def notInD (x y : PyData) : Option PyData := match seqOf y with
  | some ds => if (flat x && ds.all flat) = true then some (.bool (!ds.any fun z => PyData.eqv z x)) else none
  | none => none
theorem Rp.flat {F : Hp} {v : V} {d : PyData} (h : Rp K F v d) (f : DL.flat d = true) : flatV v = true := by
  cases h <;> first | rfl | cases f
theorem Rp.eqV {F : Hp} {v u : V} {d e : PyData} (h : Rp K F v d) (h2 : Rp K F u e) (f : DL.flat d = true) (f2 : DL.flat e = true) : L2.eqV v u = PyData.eqv d e := by
  cases h <;> cases h2 <;> first | rfl | cases f | cases f2
theorem RpAll.inV {F : Hp} {v : V} {d : PyData} (h : Rp K F v d) (f : DL.flat d = true) : ∀ {xs : List V} {ds : List PyData}, RpAll K F xs ds → ds.all DL.flat = true → L2.inV v xs = (ds.any fun z => PyData.eqv z d) ∧ xs.all flatV = true
  | _, _, .nil, _ => ⟨rfl, rfl⟩
  | _, _, .cons q r, a => by
    simp only [List.all_cons, Bool.and_eq_true] at a
    obtain ⟨h1, h2⟩ := RpAll.inV h f r a.2
    refine ⟨?_, by simp only [List.all_cons, q.flat a.1, h2, Bool.and_self]⟩
    show (L2.eqV _ v || L2.inV v _) = _
    rw [h1, q.eqV h a.1 f]
    rfl
theorem Lp.seq {F H : Hp} {v : V} {d : PyData} {ds : List PyData} (s : Same F H) (h : Lp K F H v d) (e : seqOf d = some ds) : ∃ a xs, v = .ref a ∧ (SqL K H a xs ∨ SqT K H a xs) ∧ RpAll K F xs ds := by
  cases d with
  | list es =>
    cases e
    obtain ⟨a, xs, rfl, h, r⟩ := h.lst_inv s
    exact ⟨a, xs, rfl, .inl (.of h), r⟩
  | tuple es =>
    cases e
    obtain ⟨a, xs, rfl, h, r⟩ := h.tup_inv
    exact ⟨a, xs, rfl, .inr (sqt_mono s h), r⟩
  | _ => cases e
theorem Lp.rp_flat {F H : Hp} {v : V} {d : PyData} (h : Lp K F H v d) (f : DL.flat d = true) : Rp K F v d := by
  rcases h with h | ⟨a, xs, ds, rfl, _⟩
  · exact h
  · cases f
theorem r_in : R2D K (rIn K false) inD := fun F H x y d1 d2 d Q s p1 p2 e k => by
  unfold inD at e
  split at e
  · rename_i ds hs
    split at e
    · cases e
      rename_i c
      simp only [Bool.and_eq_true] at c
      obtain ⟨a, xs, rfl, h, r⟩ := p2.seq s hs
      have q := p1.rp_flat c.1
      obtain ⟨h1, h2⟩ := RpAll.inV q c.1 r c.2
      refine ⟨a, xs, rfl, h, q.flat c.1, h2, ?_⟩
      rw [h1]
      exact k _ F H (.refl s) (.bl _)
    · cases e
  · cases e
theorem r_notIn : R2D K (rIn K true) notInD := fun F H x y d1 d2 d Q s p1 p2 e k => by
  unfold notInD at e
  split at e
  · rename_i ds hs
    split at e
    · cases e
      rename_i c
      simp only [Bool.and_eq_true] at c
      obtain ⟨a, xs, rfl, h, r⟩ := p2.seq s hs
      have q := p1.rp_flat c.1
      obtain ⟨h1, h2⟩ := RpAll.inV q c.1 r c.2
      refine ⟨a, xs, rfl, h, q.flat c.1, h2, ?_⟩
      rw [h1]
      exact k _ F H (.refl s) (.bl _)
    · cases e
  · cases e

/-! ### items, slices -/
def ixD (x y : PyData) : Option PyData := match seqOf x with
  | some ds => match y with
    | .int i => atI ds i
    | _ => none
  | none => none
theorem atI_rp {F : Hp} {xs : List V} {ds : List PyData} {i : Int} {d : PyData} (r : RpAll K F xs ds) (h : atI ds i = some d) : ∃ v, atI xs i = some v ∧ Rp K F v d := by
  unfold atI at h ⊢
  rw [r.len]
  cases hj : ixN ds.length i with
  | none => rw [hj] at h; cases h
  | some j =>
    rw [hj] at h
    exact r.get h
def rIxS2 (K : PySem.W.Frag) : R2 := fun x y H Q => rIxL K x y H Q ∨ rIxT K x y H Q
theorem ix_sq {X : Cx} : IxR X (rIxS2 X.K) := ix_list.or ix_tup
theorem r_ix : R2D K (rIxS2 K) ixD := fun F H x y d1 d2 d Q s p1 p2 e k => by
  unfold ixD at e
  split at e
  · rename_i ds hs
    split at e
    · obtain ⟨a, xs, rfl, h, r⟩ := p1.seq s hs
      obtain ⟨v, h1, h2⟩ := atI_rp r e
      rw [p2.int_inv]
      rcases h with h | h
      · exact .inl ⟨a, xs, _, v, rfl, rfl, h, h1, k _ F H (.refl s) h2⟩
      · exact .inr ⟨a, xs, _, v, rfl, rfl, h, h1, k _ F H (.refl s) h2⟩
    · cases e
  · cases e
theorem de_ix {X : Cx} {a b : Expr} {ma mb : DM} {pos : Pos} (ha : LE X a ma) (hb : LE X b mb) (hs : PlainIx b := by intro _ _; rfl) : DE X (.Subscript a b pos) (dOp ixD ma mb) := (pe_ix ix_sq ha hb hs).imp fun _ _ _ h => rd_op r_ix h
/-- an optional part of a slice -/
abbrev OMn := Env → OM (Option Int)
def oNone : OMn := fun _ => ret none
def oSome (m : DM) : OMn := fun env => bnd (m env) fun d => lift (match d with
  | .int i => some (some i)
  | _ => none)
def rdO (K : PySem.W.Frag) (m : OMn) : TO := fun σ H Q => ∃ F B W env n o n', Rl K F B W σ H env n ∧ m env n = some (o, n') ∧ ∀ F' H', Go W F H F' H' → Rl K F' B W σ H' env n' → Q o H'
abbrev DO (X : Cx) (e : Option Expr) (m : OMn) : Prop := PO X e (rdO X.K m)
theorem _root_.L2.PO.imp {X : Cx} {e : Option Expr} {t t' : TO} (h : PO X e t) (k : ∀ σ H Q, t' σ H Q → t σ H Q) : PO X e t' := ⟨fun pins s σ H Q I w => h.run pins s σ H Q I (k σ H Q w)⟩
theorem do_none {X : Cx} : DO X none oNone := po_none.imp fun σ H Q ⟨F, B, W, env, n, d, n', rl, e, k⟩ => by
  obtain ⟨rfl, rfl⟩ := ret_some e
  exact k F H .refl rl
theorem do_some {X : Cx} {e : Expr} {m : DM} (h : DE X e m) : DO X (some e) (oSome m) := (po_some h).imp fun σ H Q ⟨F, B, W, env, n, o, n', rl, e, k⟩ => by
  obtain ⟨d, n1, e1, e⟩ := bnd_some e
  obtain ⟨e3, rfl⟩ := lift_some e
  refine ⟨F, B, W, env, n, d, n', rl, e1, fun v F1 H1 g rl1 p => ?_⟩
  cases d with
  | int i =>
    cases e3
    exact ⟨i, p.int_inv, k F1 H1 g rl1⟩
  | _ => cases e3
def cutD (xs : List PyData) (lo hi : Option Int) : List PyData := (xs.drop (HT.sIx xs.length 0 lo)).take (HT.sIx xs.length xs.length hi - HT.sIx xs.length 0 lo)
theorem cut_rp {F : Hp} {xs : List V} {ds : List PyData} (r : RpAll K F xs ds) (lo hi : Option Int) : RpAll K F (cutV xs lo hi) (cutD ds lo hi) := by
  unfold cutV cutD
  rw [r.len]
  exact (r.drop _).take _
def dSlT (m : DM) (lo hi : OMn) : DM := fun env => bnd (m env) fun d => bnd (lo env) fun l => bnd (hi env) fun h => lift (match d with
  | .tuple ds => some (.tuple (cutD ds l h))
  | _ => none)
def dSlL (m : DM) (lo hi : OMn) : AM := fun env => bnd (m env) fun d => bnd (lo env) fun l => bnd (hi env) fun h => lift (match d with
  | .list ds => some (cutD ds l h)
  | _ => none)
theorem sIx_whole {n : Nat} {lo hi : Option Int} {α : Type} {xs : List α} (hn : xs.length = n) (h : HT.sIx n 0 lo = 0 ∧ HT.sIx n n hi = n) : (xs.drop (HT.sIx n 0 lo)).take (HT.sIx n n hi - HT.sIx n 0 lo) = xs := by
  rw [h.1, h.2, List.drop_zero, Nat.sub_zero, ← hn, List.take_length]
theorem de_slT {X : Cx} {e : Expr} {lo hi : Option Expr} {m : DM} {ml mh : OMn} {p2 pos : Pos} (he : LE X e m) (hl : DO X lo ml) (hu : DO X hi mh) : DE X (.Subscript e (.Slice lo hi none p2) pos) (dSlT m ml mh) :=
  (pe_slice sl_tupA he hl hu).imp fun σ H Q ⟨F, B, W, env, n, o, n', rl, e, k⟩ => by
    obtain ⟨d, n1, e1, e⟩ := bnd_some e
    obtain ⟨l, n2, e2, e⟩ := bnd_some e
    obtain ⟨h, n3, e3, e⟩ := bnd_some e
    obtain ⟨e4, rfl⟩ := lift_some e
    refine ⟨F, B, W, env, n, d, n1, rl, e1, fun v F1 H1 g1 rl1 p1 => ⟨F1, B, W, env, n1, l, n2, rl1, e2, fun F2 H2 g2 rl2 => ⟨F2, B, W, env, n2, h, n', rl2, e3, fun F3 H3 g3 rl3 => ?_⟩⟩⟩
    have p3 := ((p1.go g2).go g3).lp
    have g := (g1.trans g2).trans g3
    cases d with
    | tuple ds =>
      cases e4
      obtain ⟨a, xs, rfl, hs, r⟩ := p3.tup_inv
      have c := cut_rp r l h
      refine ⟨a, xs, rfl, sqt_mono rl3.zn.ff hs, fun w => ?_, fun w p hp => ?_⟩
      · have : cutD ds l h = ds := by
          unfold cutD
          rw [r.len] at w
          exact sIx_whole rfl w
        rw [this] at k
        exact k _ F3 H3 g rl3 (.tup hs r)
      · have q := gr_tup (K := X.K) rl3.zn.ff hp c
        exact k _ _ _ (g.trans (.of q.1)) (rl3.gr q.1) q.2
    | _ => cases e4
theorem fe_slL {X : Cx} {e : Expr} {lo hi : Option Expr} {m : DM} {ml mh : OMn} {p2 pos : Pos} (he : LE X e m) (hl : DO X lo ml) (hu : DO X hi mh) : FE X (.Subscript e (.Slice lo hi none p2) pos) (dSlL m ml mh) :=
  (pe_slice sl_list he hl hu).imp fun σ H Q ⟨F, B, W, env, n, o, n', rl, e, k⟩ => by
    obtain ⟨d, n1, e1, e⟩ := bnd_some e
    obtain ⟨l, n2, e2, e⟩ := bnd_some e
    obtain ⟨h, n3, e3, e⟩ := bnd_some e
    obtain ⟨e4, rfl⟩ := lift_some e
    refine ⟨F, B, W, env, n, d, n1, rl, e1, fun v F1 H1 g1 rl1 p1 => ⟨F1, B, W, env, n1, l, n2, rl1, e2, fun F2 H2 g2 rl2 => ⟨F2, B, W, env, n2, h, n', rl2, e3, fun F3 H3 g3 rl3 => ?_⟩⟩⟩
    have p3 := ((p1.go g2).go g3).lp
    have g := (g1.trans g2).trans g3
    cases d with
    | list ds =>
      cases e4
      obtain ⟨a, xs, rfl, hs, r⟩ := p3.lst_inv rl3.zn.ff
      refine ⟨a, xs, rfl, .of hs, fun p hp => ?_⟩
      have gr : Gr F3 H3 F3 (upd H3 p (.lst (cutV xs l h))) := .mine rl3.zn.ff hp
      exact k p _ F3 _ (g.trans (.of gr)) (rl3.gr gr) (g1.keepNone rl rl1 (g2.keepNone rl1 rl2 (g3.keepNone rl2 rl3 hp))) upd_same (same_none rl3.zn.ff hp) (cut_rp r l h)
    | _ => cases e4

/-! ### unary -/
def dUn (g : PyData → Option PyData) (m : DM) : DM := fun env => bnd (m env) fun d => lift (g d)
def negD : PyData → Option PyData
  | .int i => some (.int (-i))
  | _ => none
theorem de_neg {X : Cx} {a : Expr} {m : DM} {pos : Pos} (h : DE X a m) : DE X (.UnaryOp .USub a pos) (dUn negD m) := (pe_un un_neg h).imp fun σ H Q ⟨F, B, W, env, n, o, n', rl, e, k⟩ => by
  obtain ⟨d, n1, e1, e⟩ := bnd_some e
  obtain ⟨e4, rfl⟩ := lift_some e
  refine ⟨F, B, W, env, n, d, n', rl, e1, fun v F1 H1 g1 rl1 p1 => ?_⟩
  cases d with
  | int i =>
    cases e4
    exact ⟨i, p1.int_inv, k _ F1 H1 g1 rl1 (.int _)⟩
  | _ => cases e4

/-! ### a < b < c -/
def dChain (g g' : PyData → PyData → Option PyData) (a b c : DM) : DM := fun env => bnd (a env) fun x => bnd (b env) fun y => bnd (lift (g x y)) fun z => match z with
  | .bool true => bnd (c env) fun w => lift (g' y w)
  | .bool false => ret (.bool false)
  | _ => fail
theorem rd_chain {K : PySem.W.Frag} {r r' : R2} {g g' : PyData → PyData → Option PyData} (hr : R2D K r g) (hr' : R2D K r' g') {a b c : DM} {σ : L2.St} {H : Hp} {Q : VK} (h : rdE K (dChain g g' a b c) σ H Q) : tChain r r' (rdL K a) (rdL K b) (rdL K c) σ H Q := by
  obtain ⟨F, B, W, env, n, d, n', rl, e, k⟩ := h
  obtain ⟨d1, n1, e1, e⟩ := bnd_some e
  obtain ⟨d2, n2, e2, e⟩ := bnd_some e
  obtain ⟨z, n3, e3, e⟩ := bnd_some e
  obtain ⟨e7, rfl⟩ := lift_some e3
  refine ⟨F, B, W, env, n, d1, n1, rl, e1, fun v F1 H1 s1 rl1 p1 => ⟨F1, B, W, env, n1, d2, _, rl1, e2, fun w F2 H2 s2 rl2 p2 => ?_⟩⟩
  have p1 := p1.go s2
  refine hr F2 H2 v w d1 d2 z _ rl2.zn.ff p1.lp p2.lp e7 fun u F3 H3 g3 p3 => ?_
  have rl3 := rl2.gr g3
  have gg := (s1.trans s2).trans (.of g3)
  cases z with
  | bool q =>
    refine ⟨q, p3.bl_inv, ?_⟩
    cases q with
    | true =>
      simp only [if_true]
      obtain ⟨d3, n4, e5, e⟩ := bnd_some e
      obtain ⟨e6, rfl⟩ := lift_some e
      refine ⟨F3, B, W, env, _, d3, _, rl3, e5, fun y F4 H4 s4 rl4 p4 => ?_⟩
      exact hr' F4 H4 w y d2 d3 d Q rl4.zn.ff ((p2.gr g3).go s4).lp p4.lp e6 fun t F5 H5 g5 p5 => k t F5 H5 ((gg.trans s4).trans (.of g5)) (rl4.gr g5) p5
    | false =>
      simp only [Bool.false_eq_true, if_false]
      obtain ⟨rfl, rfl⟩ := ret_some e
      exact k _ F3 H3 gg rl3 (.bl _)
  | _ => cases e
theorem de_chain {X : Cx} {g g' : PyData → PyData → Option PyData} {r r' : R2} {ma mb mc : DM} {e : Expr} (hr : R2D X.K r g) (hr' : R2D X.K r' g') (h : PE X e (tChain r r' (rdL X.K ma) (rdL X.K mb) (rdL X.K mc))) : DE X e (dChain g g' ma mb mc) := h.imp fun _ _ _ h => rd_chain hr hr' h
theorem dt_chain {X : Cx} {g g' : PyData → PyData → Option PyData} {r r' : R2} {ma mb mc : DM} {e : Expr} (hr : R2D X.K r g) (hr' : R2D X.K r' g') (h : PT X e (tTest (tChain r r' (rdL X.K ma) (rdL X.K mb) (rdL X.K mc)))) : DT X e (tOf (dChain g g' ma mb mc)) := h.imp fun σ H Q h => by
  obtain ⟨F, B, W, env, n, d, n', rl, e, k⟩ := h
  obtain ⟨d1, n1, e1, e⟩ := bnd_some e
  obtain ⟨e3, rfl⟩ := lift_some e
  refine rd_chain hr hr' ⟨F, B, W, env, n, d1, n', rl, e1, fun v F1 H1 s1 rl1 p1 => ?_⟩
  cases d1 with
  | bool b =>
    cases e3
    exact ⟨_, p1.bl_inv, k F1 H1 s1 rl1⟩
  | _ => cases e3
end
end DL

/-! DL, part f: built-in functions on data. -/
namespace DL
open PySem PySem.Spec PyProof.Rows L2
section
variable {K : PySem.W.Frag}
def arg1 (g : PyData → Option PyData) (ds : List PyData) : Option PyData := match ds with
  | [d] => g d
  | _ => none
def arg1F (g : PyData → Option (List PyData)) (ds : List PyData) : Option (List PyData) := match ds with
  | [d] => g d
  | _ => none
def arg2 (g : PyData → PyData → Option PyData) (ds : List PyData) : Option PyData := match ds with
  | [d, e] => g d e
  | _ => none
theorem arg1_some {g : PyData → Option PyData} {ds : List PyData} {r : PyData} (h : arg1 g ds = some r) : ∃ d, ds = [d] ∧ g d = some r := by
  unfold arg1 at h
  split at h
  · exact ⟨_, rfl, h⟩
  · cases h
theorem arg1F_some {g : PyData → Option (List PyData)} {ds : List PyData} {r : List PyData} (h : arg1F g ds = some r) : ∃ d, ds = [d] ∧ g d = some r := by
  unfold arg1F at h
  split at h
  · exact ⟨_, rfl, h⟩
  · cases h
theorem arg2_some {g : PyData → PyData → Option PyData} {ds : List PyData} {r : PyData} (h : arg2 g ds = some r) : ∃ d e, ds = [d, e] ∧ g d e = some r := by
  unfold arg2 at h
  split at h
  · exact ⟨_, _, rfl, h⟩
  · cases h
theorem LpAll.one {F H : Hp} {vs : List V} {d : PyData} (h : LpAll K F H vs [d]) : ∃ v, vs = [v] ∧ Lp K F H v d := by
  cases h with
  | cons a b =>
    cases b
    exact ⟨_, rfl, a⟩
theorem LpAll.two {F H : Hp} {vs : List V} {d e : PyData} (h : LpAll K F H vs [d, e]) : ∃ v u, vs = [v, u] ∧ Lp K F H v d ∧ Lp K F H u e := by
  cases h with
  | cons a b =>
    cases b with
    | cons c b =>
      cases b
      exact ⟨_, _, rfl, a, c⟩
/-- len -/
def lenD := arg1 fun d => match seqOf d with
  | some ds => some (.int (ds.length : Int))
  | none => none
theorem r_len {X : Cx} : RCD X.K (fun xs H Q => ∃ p ys, xs = [.ref p] ∧ (SqL X.K H p ys ∨ SqT X.K H p ys) ∧ Q (.int ys.length) H) lenD := fun F H vs ds d Q s p' e' k => by
  obtain ⟨x, rfl, e⟩ := arg1_some e'
  obtain ⟨v, rfl, p⟩ := p'.one
  split at e
  · cases e
    obtain ⟨a, xs, rfl, h, r⟩ := p.seq s (by assumption)
    refine ⟨a, xs, rfl, h, ?_⟩
    rw [r.len]
    exact k _ F H (.refl s) (.int _)
  · cases e
def absD := arg1 fun d => match d with
  | .int i => some (.int (if i < 0 then -i else i))
  | _ => none
theorem r_abs : RCD K (fun xs H Q => ∃ i, xs = [.int i] ∧ Q (.int (if i < 0 then -i else i)) H) absD := fun F H vs ds d Q s p' e' k => by
  obtain ⟨x, rfl, e⟩ := arg1_some e'
  obtain ⟨v, rfl, p⟩ := p'.one
  split at e
  · cases e
    rw [p.int_inv]
    exact ⟨_, rfl, k _ F H (.refl s) (.int _)⟩
  · cases e
/-- int of an int, of a truth value -/
def intOfD := arg1 fun d => match d with
  | .int i => some (.int i)
  | .bool b => some (.int (if b then 1 else 0))
  | _ => none
theorem r_int : RCD K (fun xs H Q => (∃ i, xs = [.int i] ∧ Q (.int i) H) ∨ ∃ k, xs = [.bl k] ∧ Q (.int (if k then 1 else 0)) H) intOfD := fun F H vs ds d Q s p' e' k => by
  obtain ⟨x, rfl, e⟩ := arg1_some e'
  obtain ⟨v, rfl, p⟩ := p'.one
  split at e
  · cases e
    rw [p.int_inv]
    exact .inl ⟨_, rfl, k _ F H (.refl s) (.int _)⟩
  · cases e
    rw [p.bl_inv]
    exact .inr ⟨_, rfl, k _ F H (.refl s) (.int _)⟩
  · cases e
def maxD := arg2 fun x y => intD (fun _ _ => true) (fun i j => .int (if j > i then j else i)) x y
def minD := arg2 fun x y => intD (fun _ _ => true) (fun i j => .int (if j < i then j else i)) x y
theorem r_max2 : RCD K (fun xs H Q => ∃ i j, xs = [.int i, .int j] ∧ Q (.int (if j > i then j else i)) H) maxD := fun F H vs ds d Q s p' e' k => by
  obtain ⟨x, y, rfl, e⟩ := arg2_some e'
  obtain ⟨v, u, rfl, p, q⟩ := p'.two
  obtain ⟨i, j, rfl, rfl, _, rfl⟩ := intD_some e
  rw [p.int_inv, q.int_inv]
  exact ⟨_, _, rfl, k _ F H (.refl s) (.int _)⟩
theorem r_min2 : RCD K (fun xs H Q => ∃ i j, xs = [.int i, .int j] ∧ Q (.int (if j < i then j else i)) H) minD := fun F H vs ds d Q s p' e' k => by
  obtain ⟨x, y, rfl, e⟩ := arg2_some e'
  obtain ⟨v, u, rfl, p, q⟩ := p'.two
  obtain ⟨i, j, rfl, rfl, _, rfl⟩ := intD_some e
  rw [p.int_inv, q.int_inv]
  exact ⟨_, _, rfl, k _ F H (.refl s) (.int _)⟩
/-- a list's ints, truth values -/
def intsOf : List PyData → Option (List Int)
  | [] => some []
  | d :: ds => match d with
    | .int i => match intsOf ds with
      | some r => some (i :: r)
      | none => none
    | _ => none
def boolsOf : List PyData → Option (List Bool)
  | [] => some []
  | d :: ds => match d with
    | .bool i => match boolsOf ds with
      | some r => some (i :: r)
      | none => none
    | _ => none
theorem intsOf_some : ∀ {ds : List PyData} {ns : List Int}, intsOf ds = some ns → ds = ns.map PyData.int
  | [], ns, h => by cases h; rfl
  | d :: ds, ns, h => by
    unfold intsOf at h
    split at h
    · split at h
      · cases h
        rename_i i r hr
        rw [intsOf_some hr]
        rfl
      · cases h
    · cases h
theorem boolsOf_some : ∀ {ds : List PyData} {ns : List Bool}, boolsOf ds = some ns → ds = ns.map PyData.bool
  | [], ns, h => by cases h; rfl
  | d :: ds, ns, h => by
    unfold boolsOf at h
    split at h
    · split at h
      · cases h
        rename_i i r hr
        rw [boolsOf_some hr]
        rfl
      · cases h
    · cases h
theorem intsOf_map : ∀ ns : List Int, intsOf (ns.map PyData.int) = some ns
  | [] => rfl
  | n :: r => by
    show (match intsOf (r.map PyData.int) with
      | some r => some (n :: r)
      | none => none) = _
    rw [intsOf_map r]
theorem boolsOf_map : ∀ ns : List Bool, boolsOf (ns.map PyData.bool) = some ns
  | [] => rfl
  | n :: r => by
    show (match boolsOf (r.map PyData.bool) with
      | some r => some (n :: r)
      | none => none) = _
    rw [boolsOf_map r]
/-- sum of a list or a tuple of ints -/
def sumD := arg1 fun d => match seqOf d with
  | some ds => match intsOf ds with
    | some ns => some (.int ns.sum)
    | none => none
  | none => none
def rSumA (K : PySem.W.Frag) : List V → Hp → VK → Prop := fun vs H Q => ∃ (a : Addr) (ns : List Int), vs = [V.ref a] ∧ (SqL K H a (ns.map V.int) ∨ SqT K H a (ns.map V.int)) ∧ Q (.int ns.sum) H
theorem sumT_raw {prog : Program} {w : World} {A : Around} {E : Value → Shared → Prop} {s : Shared} {l : Addr} {its : List Value} {ns : List Int} {Q : Value → Shared → Prop} (hh : A.handled = none) (hl : s.heap.IsTuple l its.toArray) (hi : IntsAre its ns)
    (h : ∀ h' tk t', (∀ b o, s.heap.get? b = some o → h'.get? b = some o) → Q (.int ns.sum t') { s with heap := h', toks := tk }) : wpAny (model prog w) A (call (.builtin "sum") [.ref l]) Q E s := by
  obtain ⟨xs, e⟩ := hi.allInts.items
  have hn : numsOf (intItems xs).toList = ns := by rw [← e]; exact hi.numsOf
  rw [nums_intItems] at hn
  rw [e] at hl
  refine PySem.W.ktm_sumG hh hl fun h' tk t' hk => ?_
  have := h h' tk t' hk
  rw [preSum_eq, List.take_of_length_le (by simp), hn]; exact this
theorem cr_sumA {X : Cx} (hc : X.calm = true) : CallR X (.builtin "sum") (rSumA X.K) := by
  intro pins s σ H vs us Q I r h
  obtain ⟨a, ns, rfl, hs, q⟩ := h
  rcases hs with hs | hs
  · exact cr_sum hc pins s σ H _ us Q I r ⟨a, ns, rfl, hs, q⟩
  · obtain ⟨its, rv, hl, _⟩ := I.tuple hs
    rw [Vals.ref1 r]
    exact sumT_raw (I.ok.hd hc) hl rv.ints fun h' tk t' hk => ⟨.int _, H, I.kept hk, ⟨_, rfl⟩, q⟩
theorem r_sum : RCD K (rSumA K) sumD := fun F H vs ds d Q s p' e' k => by
  obtain ⟨x, rfl, e⟩ := arg1_some e'
  obtain ⟨v, rfl, p⟩ := p'.one
  split at e
  · rename_i es hs
    split at e
    · rename_i ns hn
      cases e
      obtain ⟨a, xs, rfl, h, r⟩ := p.seq s hs
      rw [intsOf_some hn] at r
      rw [r.ints_inv] at h
      exact ⟨a, ns, rfl, h, k _ F H (.refl s) (.int _)⟩
    · cases e
  · cases e
/-- all, any of a list of truth values -/
def allD := arg1 fun d => match d with
  | .list ds => match boolsOf ds with
    | some ns => some (.bool (ns.all id))
    | none => none
  | _ => none
def anyD := arg1 fun d => match d with
  | .list ds => match boolsOf ds with
    | some ns => some (.bool (ns.any id))
    | none => none
  | _ => none
theorem r_all : RCD K (rAll K) allD := fun F H vs ds d Q s p' e' k => by
  obtain ⟨x, rfl, e⟩ := arg1_some e'
  obtain ⟨v, rfl, p⟩ := p'.one
  split at e
  · split at e
    · rename_i ns hn
      cases e
      obtain ⟨a, xs, rfl, h, r⟩ := p.lst_inv s
      rw [boolsOf_some hn] at r
      rw [r.bls_inv] at h
      exact ⟨a, ns, rfl, .of h, k _ F H (.refl s) (.bl _)⟩
    · cases e
  · cases e
theorem r_any : RCD K (rAny K) anyD := fun F H vs ds d Q s p' e' k => by
  obtain ⟨x, rfl, e⟩ := arg1_some e'
  obtain ⟨v, rfl, p⟩ := p'.one
  split at e
  · split at e
    · rename_i ns hn
      cases e
      obtain ⟨a, xs, rfl, h, r⟩ := p.lst_inv s
      rw [boolsOf_some hn] at r
      rw [r.bls_inv] at h
      exact ⟨a, ns, rfl, .of h, k _ F H (.refl s) (.bl _)⟩
    · cases e
  · cases e
/-- max, min of a list of ints -/
def maxL : List Int → Int
  | [] => 0
  | x :: r => r.foldl (fun a b => if b > a then b else a) x
def minL : List Int → Int
  | [] => 0
  | x :: r => r.foldl (fun a b => if b < a then b else a) x
theorem foldMax : ∀ (r : List Int) (x : Int), (r.foldl (fun a b => if b > a then b else a) x ∈ x :: r) ∧ ∀ y ∈ x :: r, y ≤ r.foldl (fun a b => if b > a then b else a) x
  | [], x => ⟨by simp, by simp⟩
  | z :: r, x => by
    obtain ⟨h1, h2⟩ := foldMax r (if z > x then z else x)
    rw [List.foldl_cons]
    have h3 := h2 _ List.mem_cons_self
    have hw : x ≤ (if z > x then z else x) ∧ z ≤ (if z > x then z else x) := by split <;> omega
    refine ⟨?_, fun y hy => ?_⟩
    · rcases List.mem_cons.mp h1 with h | h
      · rw [h]
        split <;> simp
      · exact List.mem_cons_of_mem _ (List.mem_cons_of_mem _ h)
    · rcases List.mem_cons.mp hy with h | h
      · subst h
        exact Int.le_trans hw.1 h3
      · rcases List.mem_cons.mp h with h | h
        · subst h
          exact Int.le_trans hw.2 h3
        · exact h2 y (List.mem_cons_of_mem _ h)
theorem foldMin : ∀ (r : List Int) (x : Int), (r.foldl (fun a b => if b < a then b else a) x ∈ x :: r) ∧ ∀ y ∈ x :: r, r.foldl (fun a b => if b < a then b else a) x ≤ y
  | [], x => ⟨by simp, by simp⟩
  | z :: r, x => by
    obtain ⟨h1, h2⟩ := foldMin r (if z < x then z else x)
    rw [List.foldl_cons]
    have h3 := h2 _ List.mem_cons_self
    have hw : (if z < x then z else x) ≤ x ∧ (if z < x then z else x) ≤ z := by split <;> omega
    refine ⟨?_, fun y hy => ?_⟩
    · rcases List.mem_cons.mp h1 with h | h
      · rw [h]
        split <;> simp
      · exact List.mem_cons_of_mem _ (List.mem_cons_of_mem _ h)
    · rcases List.mem_cons.mp hy with h | h
      · subst h
        exact Int.le_trans h3 hw.1
      · rcases List.mem_cons.mp h with h | h
        · subst h
          exact Int.le_trans h3 hw.2
        · exact h2 y (List.mem_cons_of_mem _ h)
def max1D := arg1 fun d => match d with
  | .list ds => match intsOf ds with
    | some (x :: r) => some (.int (maxL (x :: r)))
    | _ => none
  | _ => none
def min1D := arg1 fun d => match d with
  | .list ds => match intsOf ds with
    | some (x :: r) => some (.int (minL (x :: r)))
    | _ => none
  | _ => none
theorem r_max1 : RCD K (rMax K) max1D := fun F H vs ds d Q s p' e' k => by
  obtain ⟨x, rfl, e⟩ := arg1_some e'
  obtain ⟨v, rfl, p⟩ := p'.one
  split at e
  · split at e
    · rename_i y rr hn
      cases e
      obtain ⟨a, xs, rfl, h, r⟩ := p.lst_inv s
      rw [intsOf_some hn] at r
      rw [r.ints_inv] at h
      refine ⟨a, _, rfl, .of h, by simp, fun m hm hle => ?_⟩
      obtain ⟨h1, h2⟩ := foldMax rr y
      have : m = maxL (y :: rr) := Int.le_antisymm (h2 m hm) (hle _ h1)
      subst this
      exact k _ F H (.refl s) (.int _)
    · cases e
  · cases e
theorem r_min1 : RCD K (rMin K) min1D := fun F H vs ds d Q s p' e' k => by
  obtain ⟨x, rfl, e⟩ := arg1_some e'
  obtain ⟨v, rfl, p⟩ := p'.one
  split at e
  · split at e
    · rename_i y rr hn
      cases e
      obtain ⟨a, xs, rfl, h, r⟩ := p.lst_inv s
      rw [intsOf_some hn] at r
      rw [r.ints_inv] at h
      refine ⟨a, _, rfl, .of h, by simp, fun m hm hle => ?_⟩
      obtain ⟨h1, h2⟩ := foldMin rr y
      have : m = minL (y :: rr) := Int.le_antisymm (hle _ h1) (h2 m hm)
      subst this
      exact k _ F H (.refl s) (.int _)
    · cases e
  · cases e
/-- tuple(xs), list(xs) -/
def tupOfD := arg1 fun d => match seqOf d with
  | some ds => some (.tuple ds)
  | none => none
theorem r_tupOf : RCD K (fun xs H Q => ∃ p ys, xs = [.ref p] ∧ ((SqL K H p ys ∧ ∀ l, H l = none → Q (.ref l) (upd H l (.tup ys))) ∨ (SqT K H p ys ∧ Q (.ref p) H))) tupOfD := fun F H vs ds d Q s p' e' k => by
  obtain ⟨x, rfl, e⟩ := arg1_some e'
  obtain ⟨v, rfl, p⟩ := p'.one
  cases x with
  | list es =>
    cases e
    obtain ⟨a, xs, rfl, h, r⟩ := p.lst_inv s
    refine ⟨a, xs, rfl, .inl ⟨.of h, fun l hl => ?_⟩⟩
    have q := gr_tup (K := K) s hl r
    exact k _ _ _ q.1 q.2
  | tuple es =>
    cases e
    obtain ⟨a, xs, rfl, h, r⟩ := p.tup_inv
    exact ⟨a, xs, rfl, .inr ⟨sqt_mono s h, k _ F H (.refl s) (.tup h r)⟩⟩
  | _ => cases e
def listOfD := arg1F seqOf
theorem r_listOf : RCF K (fun xs H Q => ∃ p ys, xs = [.ref p] ∧ (SqL K H p ys ∨ SqT K H p ys) ∧ ∀ l, H l = none → Q (.ref l) (upd H l (.lst ys))) listOfD := fun F H vs ds d Q s p' e' k => by
  obtain ⟨x, rfl, e⟩ := arg1F_some e'
  obtain ⟨v, rfl, p⟩ := p'.one
  obtain ⟨a, xs, rfl, h, r⟩ := p.seq s e
  exact ⟨a, xs, rfl, h, fun l hl => k l xs hl r⟩
/-- sorted ints -/
def insI (x : Int) : List Int → List Int
  | [] => [x]
  | y :: r => if x ≤ y then x :: y :: r else y :: insI x r
def sortI : List Int → List Int
  | [] => []
  | x :: r => insI x (sortI r)
theorem insI_perm (x : Int) : ∀ l : List Int, (insI x l).Perm (x :: l)
  | [] => .refl _
  | y :: r => by
    unfold insI
    split
    · exact .refl _
    · exact ((insI_perm x r).cons y).trans (.swap x y r)
theorem sortI_perm : ∀ l : List Int, (sortI l).Perm l
  | [] => .refl _
  | x :: r => (insI_perm x (sortI r)).trans ((sortI_perm r).cons x)
theorem insI_sorted (x : Int) : ∀ {l : List Int}, l.Pairwise (· ≤ ·) → (insI x l).Pairwise (· ≤ ·)
  | [], _ => by simp [insI]
  | y :: r, h => by
    unfold insI
    have h2 := List.pairwise_cons.mp h
    split
    · rename_i hx
      refine List.pairwise_cons.mpr ⟨fun z hz => ?_, h⟩
      rcases List.mem_cons.mp hz with rfl | hz
      · exact hx
      · exact Int.le_trans hx (h2.1 z hz)
    · refine List.pairwise_cons.mpr ⟨fun z hz => ?_, insI_sorted x h2.2⟩
      rcases List.mem_cons.mp ((insI_perm x r).mem_iff.mp hz) with rfl | hz
      · omega
      · exact h2.1 z hz
theorem sortI_sorted : ∀ l : List Int, (sortI l).Pairwise (· ≤ ·)
  | [] => .nil
  | x :: r => insI_sorted x (sortI_sorted r)
theorem sorted_unique : ∀ {l m : List Int}, l.Perm m → l.Pairwise (· ≤ ·) → m.Pairwise (· ≤ ·) → l = m := fun h a b => List.Perm.eq_of_pairwise (fun x y _ _ h1 h2 => Int.le_antisymm h1 h2) a b h
def sortedD := arg1F fun d => match seqOf d with
  | some ds => match intsOf ds with
    | some ns => some ((sortI ns).map PyData.int)
    | none => none
  | none => none
/-- of a list alone -/
def sortedLD := arg1F fun d => match d with
  | .list ds => match intsOf ds with
    | some ns => some ((sortI ns).map PyData.int)
    | none => none
  | _ => none
theorem r_sorted : RCF K (rSortedI K) sortedLD := fun F H vs ds d Q s p' e' k => by
  obtain ⟨x, rfl, e⟩ := arg1F_some e'
  obtain ⟨v, rfl, p⟩ := p'.one
  split at e
  · split at e
    · rename_i ns hn
      cases e
      obtain ⟨a, xs, rfl, h, r⟩ := p.lst_inv s
      rw [intsOf_some hn] at r
      rw [r.ints_inv] at h
      refine ⟨a, ns, rfl, .of h, fun ns' p hp hs hn => ?_⟩
      have : ns' = sortI ns := sorted_unique (hp.trans (sortI_perm ns).symm) hs (sortI_sorted ns)
      subst this
      exact k p _ hn (.ints _)
    · cases e
  · cases e
/-- xs * n of a list -/
def repD (x y : PyData) : Option (List PyData) := match x with
  | .list ds => match y with
    | .int k => if -9223372036854775808 ≤ k ∧ k < 9223372036854775808 ∧ ds.length * k.toNat ≤ lim then some (List.replicate k.toNat ds).flatten else none
    | _ => none
  | _ => none
theorem r_rep : R2F K rRep repD := fun F H x y d1 d2 ds Q s p1 p2 e k => by
  unfold repD at e
  split at e
  · split at e
    · split at e
      · cases e
        rename_i c
        obtain ⟨a, xs, rfl, h, r⟩ := p1.lst_inv s
        rw [p2.int_inv]
        refine ⟨a, _, xs, rfl, rfl, h, c.1, c.2.1, ?_, fun p hp => k p _ hp (r.rep _)⟩
        rw [r.len]
        exact lim_le c.2.2
      · cases e
    · cases e
  · cases e
/-- xs + ys of lists -/
def catD (x y : PyData) : Option (List PyData) := match x with
  | .list a => match y with
    | .list b => if a.length + b.length ≤ lim then some (a ++ b) else none
    | _ => none
  | _ => none
theorem r_cat : R2F K rCat catD := fun F H x y d1 d2 ds Q s p1 p2 e k => by
  unfold catD at e
  split at e
  · split at e
    · split at e
      · cases e
        rename_i c
        obtain ⟨a, xs, rfl, h, r⟩ := p1.lst_inv s
        obtain ⟨b, ys, rfl, h2, r2⟩ := p2.lst_inv s
        refine ⟨a, b, xs, ys, rfl, rfl, h, h2, by rw [r.len, r2.len]; exact lim_le c, fun p hp => k p _ hp (r.append r2)⟩
      · cases e
    · cases e
  · cases e
/-- list(range(..)) -/
def listRgD (m : AM) : AM := fun env => bnd (m env) fun ds => if ds.length ≤ lim then ret ds else fail
/-- isinstance of a built-in class -/
def tyName : PyData → String
  | .none => "NoneType"
  | .bool _ => "bool"
  | .int _ => "int"
  | .str _ => "str"
  | .list _ => "list"
  | .tuple _ => "tuple"
  | .dict _ => "dict"
/-- int, bool, tuple -/
def isiD (T : String) (d : PyData) : Option PyData := match T with
  | "int" => (match d with
    | .int _ => some (.bool true)
    | .bool _ => some (.bool true)
    | _ => some (.bool false))
  | "bool" => (match d with
    | .bool _ => some (.bool true)
    | _ => some (.bool false))
  | "tuple" => (match d with
    | .tuple _ => some (.bool true)
    | _ => some (.bool false))
  | _ => none
theorem Rp.tyX {F H : Hp} {v : V} {d : PyData} (s : Same F H) (h : Rp K F v d) : TyX K H v (.type (tyName d)) := by
  cases h with
  | non => exact .base .non
  | bl b => exact .base (.bl b)
  | int i => exact .base (.int i)
  | str x => exact .base (.str x)
  | lst h r => exact .base (.lst (s _ _ h))
  | tup h r =>
    rcases h with (h | ⟨o, h⟩) | ⟨o, its, n, h, c, _⟩
    · exact .base (.tup (s _ _ h))
    · exact .fTuple (s _ _ h)
    · exact .kTuple h c
  | dK h n r => exact .base (.dK (s _ _ h))
  | dT h n r => exact .base (.dT (s _ _ h))
theorem kit_int (d : PyData) (b : Bool) (h : isiD "int" d = some (.bool b)) : kitB (tyName d) "int" = some b := by
  cases d <;> (simp only [isiD, Option.some.injEq, PyData.bool.injEq] at h; subst h; dsimp only [tyName]; decide +kernel)
theorem kit_bool (d : PyData) (b : Bool) (h : isiD "bool" d = some (.bool b)) : kitB (tyName d) "bool" = some b := by
  cases d <;> (simp only [isiD, Option.some.injEq, PyData.bool.injEq] at h; subst h; dsimp only [tyName]; decide +kernel)
theorem kit_tuple (d : PyData) (b : Bool) (h : isiD "tuple" d = some (.bool b)) : kitB (tyName d) "tuple" = some b := by
  cases d <;> (simp only [isiD, Option.some.injEq, PyData.bool.injEq] at h; subst h; dsimp only [tyName]; decide +kernel)
theorem isiD_bool {T : String} {d r : PyData} (h : isiD T d = some r) : ∃ b, r = .bool b := by
  unfold isiD at h
  split at h
  · split at h <;> (cases h; exact ⟨_, rfl⟩)
  · split at h <;> (cases h; exact ⟨_, rfl⟩)
  · split at h <;> (cases h; exact ⟨_, rfl⟩)
  · cases h
/-- isinstance(e, T) -/
theorem de_isi {X : Cx} {e : Expr} {m : DM} {T : String} (hT : ∀ d b, isiD T d = some (.bool b) → kitB (tyName d) T = some b) (h : PE X e (tCB (rIsi X.K) (tCons (rdE X.K m) (tCons (tC (.ty T)) tNil)))) : DE X e (dUn (isiD T) m) := h.imp fun σ H Q ⟨F, B, W, env, n, o, n', rl, e, k⟩ => by
  obtain ⟨d, n1, e1, e⟩ := bnd_some e
  obtain ⟨e4, rfl⟩ := lift_some e
  refine ⟨F, B, W, env, n, d, n', rl, e1, fun v F1 H1 g1 rl1 p1 => ?_⟩
  obtain ⟨b, rfl⟩ := isiD_bool e4
  exact ⟨v, .ty T, _, _, b, rfl, .ty T, p1.tyX rl1.zn.ff, kit_ty (hT d b e4), k _ F1 H1 g1 rl1 (.bl _)⟩
end
end DL

/-! DL, part g: lists that change, the script, the draws. -/
namespace DL
open PySem PySem.Spec PyProof.Rows L2
section
variable {X : Cx} {st : Stmt} {e : Expr}
def powD := intD (fun i j => decide (0 ≤ j) && decide (j ≤ 1000000) && decide (i.natAbs < 2 ^ 64)) fun i j => .int (i ^ j.toNat)
theorem r_pow {K : PySem.W.Frag} : R2D K (rI CPow fun i j => .int (i ^ j.toNat)) powD := fun F H x y d1 d2 d Q s p1 p2 e k => by
  obtain ⟨i, j, rfl, rfl, c, rfl⟩ := intD_some e
  rw [p1.int_inv, p2.int_inv]
  simp only [Bool.and_eq_true, decide_eq_true_eq] at c
  exact ⟨_, _, rfl, rfl, ⟨c.1.1, c.1.2, c.2⟩, k _ F H (.refl s) (.int _)⟩
def getO (env : Env) (i : Nat) : Option (List PyData) := match env[i]? with
  | some (some (.own ds)) => some ds
  | _ => none
theorem getO_some {env : Env} {i : Nat} {ds : List PyData} (h : getO env i = some ds) : env[i]? = some (some (.own ds)) := by
  unfold getO at h
  split at h
  · cases h; assumption
  · cases h
/-- one's own list changed -/
theorem Rl.updOwn {K : PySem.W.Frag} {F B H : Hp} {W : Option Wl} {σ : L2.St} {env : Env} {n : Nat} {a : Addr} {ds ds' : List PyData} {xs' : List V} {i : Nat} (r : Rl K F B W σ H env n) (he : env[i]? = some (some (.own ds))) (hs : σ[i]? = some (some (.ref a)))
    (r' : RpAll K F xs' ds') : Rl K F B W σ (upd H a (.lst xs')) (env.set i (some (.own ds'))) n := by
  obtain ⟨v, h1, b, xs, rfl, hH, ra, fa, ba, wa⟩ := r.sl i _ he
  rw [hs] at h1
  cases h1
  have hi := (List.getElem?_eq_some_iff.mp he).1
  refine ⟨⟨same_mut r.zn.ff fa, same_mut r.zn.bb ba, r.zn.dj⟩, ?_, fun j e hj => ?_, fun j k e e' u hjk h1 h2 m1 m2 h3 h4 => ?_, by simp [r.le]⟩
  · have q := r.wo
    cases W with
    | none => trivial
    | some w =>
      obtain ⟨h1, h2, h3⟩ := q
      exact ⟨Wl.upd_now h1 (wa w rfl) (Wl.lst_code hH), h2, h3⟩
  · by_cases hij : i = j
    · subst hij
      rw [List.getElem?_set_self hi] at hj
      cases hj
      exact ⟨_, hs, a, xs', rfl, upd_same, r', fa, ba, wa⟩
    · rw [List.getElem?_set_ne hij] at hj
      obtain ⟨v, h1, h2⟩ := r.sl j e hj
      refine ⟨v, h1, ?_⟩
      cases e with
      | val d => exact h2
      | own es =>
        obtain ⟨c, ys, rfl, q1, q2⟩ := h2
        have : c ≠ a := fun z => r.ap j i _ _ _ (Ne.symm hij) hj he rfl rfl h1 (by rw [z]; exact hs)
        exact ⟨c, ys, rfl, by rw [upd_ne this]; exact q1, q2⟩
      | dct kvs =>
        obtain ⟨c, rfl, q1, q2, q3⟩ := h2
        have : c ≠ a := fun z => r.ap j i _ _ _ (Ne.symm hij) hj he rfl rfl h1 (by rw [z]; exact hs)
        refine ⟨c, rfl, q1, q2, ?_⟩
        rw [upd_ne this]
        exact q3
      | wdr ws => exact h2
      | scr ns => exact h2
      | tabv d => exact h2
  · have back : ∀ (j : Nat) (e : En), (env.set i (some (.own ds')))[j]? = some (some e) → e.mut = true → ∃ e0 : En, env[j]? = some (some e0) ∧ e0.mut = true := fun j e hj hm => by
      by_cases hij : i = j
      · subst hij
        exact ⟨_, he, rfl⟩
      · rw [List.getElem?_set_ne hij] at hj
        exact ⟨e, hj, hm⟩
    obtain ⟨e1, q1, q2⟩ := back j e h1 m1
    obtain ⟨e2, q3, q4⟩ := back k e' h2 m2
    exact r.ap j k e1 e2 u hjk q1 q3 q2 q4 h3 h4
/-- xs.append(e) -/
def sApp (i : Nat) (m : DM) : SM := fun env => bnd (m env) fun d => match getO env i with
  | some ds => if ds.length < lim then ret (.nx (env.set i (some (.own (ds ++ [d]))))) else fail
  | none => fail
theorem own_at {K : PySem.W.Frag} {F B H : Hp} {W : Option Wl} {σ : L2.St} {env : Env} {n i : Nat} {ds : List PyData} (r : Rl K F B W σ H env n) (h : getO env i = some ds) : ∃ a xs, σ[i]? = some (some (.ref a)) ∧ H a = some (.lst xs) ∧ RpAll K F xs ds := by
  obtain ⟨v, h1, a, xs, rfl, h2, h3, _⟩ := r.sl i _ (getO_some h)
  exact ⟨a, xs, h1, h2, h3⟩
theorem ds_app {i : Nat} {m : DM} (h : PS X st (tDrop (tBM X.K "list" rAppend (tVar i) (tCons (rdE X.K m) tNil)))) : DS X st (sApp i m) := h.imp fun D σ H ⟨F, B, W, env, n, r, n', rl, e, k⟩ => by
  obtain ⟨d, n1, e1, e⟩ := bnd_some e
  cases ho : getO env i with
  | none =>
    simp only [ho, fail] at e
    cases e
  | some ds =>
    simp only [ho] at e
    by_cases hl : ds.length < lim
    · rw [if_pos hl] at e
      obtain ⟨rfl, rfl⟩ := ret_some e
      obtain ⟨a, xs, h1, h2, h3⟩ := own_at rl ho
      refine ⟨_, h1, .inl ⟨rfl, xs, .of h2⟩, F, B, W, env, n, d, _, rl, e1, fun v F1 H1 g rl1 p => ?_⟩
      obtain ⟨a', xs', h1', h2', h3'⟩ := own_at rl1 ho
      rw [h1] at h1'
      cases h1'
      refine ⟨a, xs', v, rfl, rfl, h2', by rw [h3'.len]; exact lim_lt hl, ?_⟩
      exact k σ F1 _ g.f (rl1.updOwn (getO_some ho) h1 (h3'.append (.one p)))
    · rw [if_neg hl] at e
      cases e
/-- xs.extend(ys) of a list -/
def sExt (i : Nat) (m : DM) : SM := fun env => bnd (m env) fun d => match getO env i, d with
  | some ds, .list es => if ds.length + es.length ≤ lim then ret (.nx (env.set i (some (.own (ds ++ es))))) else fail
  | _, _ => fail
theorem ds_ext {i : Nat} {m : DM} (h : PS X st (tDrop (tBM X.K "list" rExtend (tVar i) (tCons (rdE X.K m) tNil)))) : DS X st (sExt i m) := h.imp fun D σ H ⟨F, B, W, env, n, r, n', rl, e, k⟩ => by
  obtain ⟨d, n1, e1, e⟩ := bnd_some e
  obtain ⟨ds, es, ho, rfl, hl, e2⟩ : ∃ ds es, getO env i = some ds ∧ d = .list es ∧ ds.length + es.length ≤ lim ∧ ret (Fl.nx (env.set i (some (.own (ds ++ es))))) n1 = some (r, n') := by
    cases ho : getO env i with
    | none => simp only [ho, fail] at e; cases e
    | some ds =>
      cases d with
      | list es =>
        simp only [ho] at e
        by_cases hl : ds.length + es.length ≤ lim
        · rw [if_pos hl] at e
          exact ⟨ds, es, rfl, rfl, hl, e⟩
        · rw [if_neg hl] at e
          cases e
      | _ => simp only [ho, fail] at e; cases e
  obtain ⟨rfl, rfl⟩ := ret_some e2
  obtain ⟨a, xs, h1, h2, h3⟩ := own_at rl ho
  refine ⟨_, h1, .inl ⟨rfl, xs, .of h2⟩, F, B, W, env, n, _, _, rl, e1, fun v F1 H1 g rl1 p => ?_⟩
  obtain ⟨a', xs', h1', h2', h3'⟩ := own_at rl1 ho
  rw [h1] at h1'
  cases h1'
  obtain ⟨b, zs, rfl, hb, rb⟩ := p.lst_inv
  refine ⟨a, b, xs', zs, rfl, rfl, h2', rl1.zn.ff _ _ hb, by rw [h3'.len, rb.len]; exact lim_le hl, ?_⟩
  exact k σ F1 _ g.f (rl1.updOwn (getO_some ho) h1 (h3'.append rb))
/-- xs[k] = e -/
def sSetI (i : Nat) (mk me : DM) : SM := fun env => bnd (me env) fun d => bnd (mk env) fun j => match getO env i, j with
  | some ds, .int j => (match ixN ds.length j with
    | some k => ret (.nx (env.set i (some (.own (ds.set k d)))))
    | none => fail)
  | _, _ => fail
theorem ds_setI {i : Nat} {mk me : DM} (h : PS X st (tAsg (rdE X.K me) (gSub (tVar i) (rdE X.K mk) rSetL))) : DS X st (sSetI i mk me) := h.imp fun D σ H ⟨F, B, W, env, n, r, n', rl, e, k⟩ => by
  obtain ⟨d, n1, e1, e⟩ := bnd_some e
  obtain ⟨j, n2, e2, e⟩ := bnd_some e
  obtain ⟨ds, j', k', ho, rfl, hk, e3⟩ : ∃ ds j' k', getO env i = some ds ∧ j = .int j' ∧ ixN ds.length j' = some k' ∧ ret (Fl.nx (env.set i (some (.own (ds.set k' d))))) n2 = some (r, n') := by
    cases ho : getO env i with
    | none => simp only [ho, fail] at e; cases e
    | some ds =>
      cases j with
      | int j =>
        simp only [ho] at e
        cases hk : ixN ds.length j with
        | none => simp only [hk, fail] at e; cases e
        | some k' =>
          simp only [hk] at e
          exact ⟨ds, j, k', rfl, rfl, hk, e⟩
      | _ => simp only [ho, fail] at e; cases e
  obtain ⟨rfl, rfl⟩ := ret_some e3
  refine ⟨F, B, W, env, n, d, n1, rl, e1, fun v F1 H1 g rl1 p => ?_⟩
  obtain ⟨a, xs, h1, h2, h3⟩ := own_at rl1 ho
  refine ⟨_, h1, F1, B, W, env, n1, _, _, rl1, e2, fun u F2 H2 g2 rl2 p2 => ?_⟩
  obtain ⟨a', xs', h1', h2', h3'⟩ := own_at rl2 ho
  rw [h1] at h1'
  cases h1'
  refine ⟨a, xs', j', k', rfl, p2.int_inv, h2', by rw [h3'.len]; exact hk, ?_⟩
  exact k σ F2 _ (g.f.trans g2.f) (rl2.updOwn (getO_some ho) h1 (h3'.set (p.mono g2.f) k'))
/-- xs[k] += e, ints -/
theorem get_list : PGet X (rIxL X.K) := by
  intro pins s σ H o i ov iv Q I rx ry h
  obtain ⟨p, xs, i, z, rfl, rfl, hq, he, q⟩ := h
  cases rx
  obtain ⟨t, rfl⟩ := ry
  obtain ⟨its, r, pl, hz⟩ := I.list hq
  obtain ⟨j, h1, h2, h3, h4, h5⟩ := atI_get he
  obtain ⟨w, ew, rw'⟩ := r.get h2
  have hl := r.length
  have hn := line63
  have fin : EP X pins σ Q w s := ⟨z, H, I, rw', q⟩
  by_cases h0 : 0 ≤ i
  · have hj : i.toNat = j := by
      rw [seqIndex_of h0 h5] at h1
      exact Option.some.inj h1
    exact wpAny_getItem_list pl.isList h0 (by omega) (by rw [hj]; simpa using ew) fin
  · have hj : (i + (its.toArray.size : Int)).toNat = j := by
      rw [seqIndex_neg (by omega) h4] at h1
      rw [List.size_toArray, ← hl]
      exact Option.some.inj h1
    refine thn (wpAny_getItem_list_neg (Q := fun r s' => r = w ∧ EP X pins σ Q r s') pl.isList (by omega) (by rw [List.size_toArray] <;> omega) (by omega) (by rw [hj]; simpa using ew) ⟨rfl, fin⟩) fun r s' ⟨e, q⟩ => ?_
    rw [e] at q
    rw [e]
    exact q
def sAugIx (i : Nat) (mk : DM) (f : Int → Int → Int) (me : DM) : SM := fun env => bnd (mk env) fun j => bnd (me env) fun d => match getO env i, j, d with
  | some ds, .int j, .int b => (match ixN ds.length j with
    | some k => (match ds[k]? with
      | some (.int a) => ret (.nx (env.set i (some (.own (ds.set k (.int (f a b)))))))
      | _ => fail)
    | none => fail)
  | _, _, _ => fail
theorem ds_augIx {i : Nat} {mk me : DM} {f : Int → Int → Int} (h : PS X st (tAugS (tVar i) (rdE X.K mk) (rdE X.K me) (rIxL X.K) (ipI f) rSetL)) : DS X st (sAugIx i mk f me) := h.imp fun D σ H ⟨F, B, W, env, n, r, n', rl, e, k⟩ => by
  obtain ⟨j, n1, e1, e⟩ := bnd_some e
  obtain ⟨d, n2, e2, e⟩ := bnd_some e
  obtain ⟨ds, j', b, k', a0, ho, rfl, rfl, hk, ha, e3⟩ : ∃ ds j' b k' a0, getO env i = some ds ∧ j = .int j' ∧ d = .int b ∧ ixN ds.length j' = some k' ∧ ds[k']? = some (.int a0) ∧ ret (Fl.nx (env.set i (some (.own (ds.set k' (.int (f a0 b))))))) n2 = some (r, n') := by
    cases ho : getO env i with
    | none => simp only [ho, fail] at e; cases e
    | some ds =>
      cases j with
      | int j =>
        cases d with
        | int b =>
          simp only [ho] at e
          cases hk : ixN ds.length j with
          | none => simp only [hk, fail] at e; cases e
          | some k' =>
            simp only [hk] at e
            cases ha : ds[k']? with
            | none => simp only [ha, fail] at e; cases e
            | some x =>
              cases x with
              | int a0 =>
                simp only [ha] at e
                exact ⟨ds, j, b, k', a0, rfl, rfl, rfl, hk, ha, e⟩
              | _ => simp only [ha, fail] at e; cases e
        | _ => simp only [ho, fail] at e; cases e
      | _ => simp only [ho, fail] at e; cases e
  obtain ⟨rfl, rfl⟩ := ret_some e3
  obtain ⟨a, xs, h1, h2, h3⟩ := own_at rl ho
  refine ⟨_, h1, F, B, W, env, n, _, n1, rl, e1, fun u F1 H1 g1 rl1 p1 => ?_⟩
  obtain ⟨a1, xs1, z1, z2, z3⟩ := own_at rl1 ho
  rw [h1] at z1
  cases z1
  obtain ⟨v0, q1, q2⟩ := z3.get ha
  refine ⟨_, xs1, j', v0, rfl, p1.int_inv, .of z2, ?_, F1, B, W, env, n1, _, _, rl1, e2, fun v F2 H2 g2 rl2 p2 => ?_⟩
  · unfold atI
    rw [z3.len, hk]
    exact q1
  obtain ⟨a2, xs2, y1, y2, y3⟩ := own_at rl2 ho
  rw [h1] at y1
  cases y1
  refine ⟨a0, b, q2.int_inv, p2.int_inv, _, xs2, j', k', rfl, p1.int_inv, y2, by rw [y3.len]; exact hk, ?_⟩
  exact k σ F2 _ (g1.f.trans g2.f) (rl2.updOwn (getO_some ho) h1 (y3.set (.int _) k'))
/-- xs.pop() -/
def sPop (i : Nat) : SM := fun env => match getO env i with
  | some ds => if ds.length = 0 then fail else ret (.nx (env.set i (some (.own ds.dropLast))))
  | none => fail
theorem ds_pop {i : Nat} (h : PS X st (tDrop (tBM0 X.K "list" rPop (tVar i)))) : DS X st (sPop i) := h.imp fun D σ H ⟨F, B, W, env, n, r, n', rl, e, k⟩ => by
  have e0 : (match getO env i with
    | some ds => if ds.length = 0 then fail else ret (Fl.nx (env.set i (some (.own ds.dropLast))))
    | none => fail) n = some (r, n') := e
  cases ho : getO env i with
  | none =>
    simp only [ho, fail] at e0
    cases e0
  | some ds =>
    simp only [ho] at e0
    by_cases hl : ds.length = 0
    · rw [if_pos hl] at e0
      cases e0
    · rw [if_neg hl] at e0
      obtain ⟨rfl, rfl⟩ := ret_some e0
      obtain ⟨a, xs, h1, h2, h3⟩ := own_at rl ho
      have hx : xs.length ≠ 0 := by rw [h3.len]; exact hl
      refine ⟨_, h1, .inl ⟨rfl, xs, .of h2⟩, a, xs, _, rfl, rfl, h2, List.getElem?_eq_getElem (by omega), ?_⟩
      exact k σ F _ (.refl _) (rl.updOwn (getO_some ho) h1 h3.dropLast)
/-- the list is one's own no more: it is to be read alone -/
def frz (env : Env) (i : Nat) : Env := match getO env i with
  | some ds => env.set i (some (.val (.list ds)))
  | none => env
def sFrz (i : Nat) (s : SM) : SM := fun env => s (frz env i)
theorem Rl.frz {K : PySem.W.Frag} {F B H : Hp} {W : Option Wl} {σ : L2.St} {env : Env} {n : Nat} (i : Nat) (r : Rl K F B W σ H env n) : ∃ F', Same F F' ∧ Rl K F' B W σ H (frz env i) n := by
  unfold DL.frz
  cases ho : getO env i with
  | none => exact ⟨F, .refl _, r⟩
  | some ds =>
    have he := getO_some ho
    obtain ⟨v, h1, a, xs, rfl, h2, h3, fa, ba, wa⟩ := r.sl i _ he
    have hi := (List.getElem?_eq_some_iff.mp he).1
    have s : Same F (upd F a (.lst xs)) := same_new fa
    -- without its name
    have r0 : Rl K F B W σ H (env.set i none) n := by
      refine ⟨r.zn, r.wo, fun j e hj => ?_, fun j k e e' u hjk h1 h2 m1 m2 h3 h4 => ?_, by simp [r.le]⟩
      · by_cases hij : i = j
        · subst hij
          rw [List.getElem?_set_self hi] at hj
          cases hj
        · rw [List.getElem?_set_ne hij] at hj
          exact r.sl j e hj
      · have back : ∀ (j : Nat) (e : En), (env.set i none)[j]? = some (some e) → env[j]? = some (some e) := fun j e hj => by
          by_cases hij : i = j
          · subst hij
            rw [List.getElem?_set_self hi] at hj
            cases hj
          · rw [List.getElem?_set_ne hij] at hj
            exact hj
        exact r.ap j k e e' u hjk (back j e h1) (back k e' h2) m1 m2 h3 h4
    have w := wa
    have o : ∀ (j : Nat) (e : En), (env.set i none)[j]? = some (some e) → e.mut = true → σ[j]? ≠ some (some (.ref a)) := fun j e hj hm z => by
      by_cases hij : i = j
      · subst hij
        rw [List.getElem?_set_self hi] at hj
        cases hj
      · rw [List.getElem?_set_ne hij] at hj
        exact r.ap i j _ _ _ hij he hj rfl hm h1 z
    have r1 := (r0.freeze h2 fa ba w o).set i (.lst upd_same (h3.mono s) : Rp K (upd F a (.lst xs)) (.ref a) (.list ds))
    rw [List.set_set] at r1
    have hσ : σ.set i (some (V.ref a)) = σ := by
      apply List.ext_getElem?
      intro j
      by_cases hij : i = j
      · subst hij
        rw [List.getElem?_set_self (by rw [← r.le]; exact hi), h1]
      · rw [List.getElem?_set_ne hij]
    rw [hσ] at r1
    exact ⟨_, s, r1⟩
theorem ds_frz {i : Nat} {s : SM} (h : DS X st s) : DS X st (sFrz i s) := h.imp fun D σ H ⟨F, B, W, env, n, r, n', rl, e, k⟩ => by
  obtain ⟨F', sf, rl'⟩ := rl.frz i
  exact ⟨F', B, W, _, n, r, n', rl', e, k.mono sf⟩

/-! ### the script -/
def getS (env : Env) (i : Nat) : Option (List Int) := match env[i]? with
  | some (some (.scr ns)) => some ns
  | _ => none
theorem getS_some {env : Env} {i : Nat} {ds : List Int} (h : getS env i = some ds) : env[i]? = some (some (.scr ds)) := by
  unfold getS at h
  split at h
  · cases h; assumption
  · cases h
def dLenS (i : Nat) : DM := fun env => lift (match getS env i with
  | some ns => some (.int (ns.length : Int))
  | none => none)
theorem de_lenS {i : Nat} (h : PE X e (tCB (fun xs H Q => ∃ p ys, xs = [.ref p] ∧ (SqL X.K H p ys ∨ SqT X.K H p ys) ∧ Q (.int ys.length) H) (tCons (tVar i) tNil))) : DE X e (dLenS i) := h.imp fun σ H Q ⟨F, B, W, env, n, d, n', rl, e, k⟩ => by
  obtain ⟨e1, rfl⟩ := lift_some e
  split at e1
  · rename_i ns hs
    cases e1
    obtain ⟨v, h1, a, rfl, h2⟩ := rl.sl i _ (getS_some hs)
    refine ⟨_, h1, a, _, rfl, .inl (rl.zn.ff.seq h2), ?_⟩
    rw [List.length_map]
    exact k _ F H .refl rl (.int _)
  · cases e1
def dIxS (i : Nat) (m : DM) : DM := fun env => bnd (m env) fun d => lift (match getS env i, d with
  | some ns, .int j => (match atI ns j with
    | some v => some (.int v)
    | none => none)
  | _, _ => none)
theorem atI_map {α β : Type} {f : α → β} {xs : List α} {j : Int} {v : α} (h : atI xs j = some v) : atI (xs.map f) j = some (f v) := by
  unfold atI at h ⊢
  rw [List.length_map]
  cases hj : ixN xs.length j with
  | none => rw [hj] at h; cases h
  | some k =>
    rw [hj] at h
    have h : xs[k]? = some v := h
    show (xs.map f)[k]? = some (f v)
    rw [List.getElem?_map, h]
    rfl
theorem de_ixS {i : Nat} {m : DM} (h : PE X e (tOp (rIxL X.K) (tVar i) (rdE X.K m))) : DE X e (dIxS i m) := h.imp fun σ H Q ⟨F, B, W, env, n, d, n', rl, e, k⟩ => by
  obtain ⟨d1, n1, e1, e⟩ := bnd_some e
  obtain ⟨e2, rfl⟩ := lift_some e
  split at e2
  · rename_i ns j hs
    split at e2
    · rename_i v hv
      cases e2
      obtain ⟨v', h1, a, rfl, h2⟩ := rl.sl i _ (getS_some hs)
      refine ⟨_, h1, F, B, W, env, n, _, _, rl, e1, fun u F1 H1 g rl1 p => ?_⟩
      rw [p.int_inv]
      exact ⟨a, _, _, _, rfl, rfl, rl1.zn.ff.seq (g.f.seq h2), atI_map hv, k _ F1 H1 g rl1 (.int _)⟩
    · cases e2
  · cases e2

/-! ### calls that draw -/
def SpW (K : PySem.W.Frag) (k : Nat) (g : Tag → List PyData → OM PyData) : Sp := fun vs H Q _ => ∃ F B w n ds d n' vs', vs = .ref w.self :: vs' ∧ w.tok (tabK K) ∧ Zn F B H ∧ WOk F B H n (some w) ∧ RpAll K F vs' ds ∧ ds.length = k ∧ g w.tag ds n = some (d, n') ∧
  ∀ v F' H', Same F F' → Zn F' B H' → WOk F' B H' n' (some w) → Rp K F' v d → Q v H'
def getW (env : Env) (i : Nat) : Option Tag := match env[i]? with
  | some (some (.wdr ns)) => some ns
  | _ => none
theorem getW_some {env : Env} {i : Nat} {ds : Tag} (h : getW env i = some ds) : env[i]? = some (some (.wdr ds)) := by
  unfold getW at h
  split at h
  · cases h; assumption
  · cases h
def dCallW (g : Tag → List PyData → OM PyData) (i : Nat) (m : AM) : DM := fun env => bnd (m env) fun ds => match getW env i with
  | some ws => g ws ds
  | none => fail
/-- all that is not frozen but what W changes -/
noncomputable def restW (c : Addr → Prop) (F H : Hp) : Hp := fun a => @ite _ (c a) (Classical.propDecidable _) none (rest F H a)
theorem restW_out {c : Addr → Prop} {F H : Hp} {a : Addr} (n : ¬ c a) : restW c F H a = rest F H a := by
  unfold restW
  rw [if_neg n]
theorem restW_in {c : Addr → Prop} {F H : Hp} {a : Addr} (n : c a) : restW c F H a = none := by
  unfold restW
  rw [if_pos n]
theorem restW_some {c : Addr → Prop} {F H : Hp} {a : Addr} {o : HO} (h : H a = some o) (f : F a = none) (n : ¬ c a) : restW c F H a = some o := by
  rw [restW_out n]
  unfold rest
  rw [f]
  exact h
theorem zn_restW {c : Addr → Prop} {F H : Hp} (s : Same F H) : Zn F (restW c F H) H := by
  have z := zn_rest s
  refine ⟨s, fun a o e => ?_, fun a o e => ?_⟩
  · by_cases n : c a
    · rw [restW_in n] at e
      cases e
    · rw [restW_out n] at e
      exact z.bb a o e
  · by_cases n : c a
    · rw [restW_in n] at e
      cases e
    · rw [restW_out n] at e
      exact z.dj a o e
theorem de_callW {i k : Nat} {m : AM} {g : Tag → List PyData → OM PyData} {E : XK} (h : PE X e (tCall (SpW X.K k g) [] E (tCons (tVar i) (rdA X.K m)))) (hk : ∀ env n ds n', m env n = some (ds, n') → ds.length = k) : DE X e (dCallW g i m) := h.imp fun σ H Q ⟨F, B, W, env, n, d, n', rl, e, kk⟩ => by
  obtain ⟨ds, n1, e1, e⟩ := bnd_some e
  cases hw : getW env i with
  | none =>
    simp only [hw, fail] at e
    cases e
  | some ws =>
    simp only [hw] at e
    obtain ⟨v, h1, w, rfl, rfl, rfl, tk⟩ := rl.sl i _ (getW_some hw)
    refine ⟨_, h1, F, B, some w, env, n, ds, n1, rl, e1, fun vs F1 H1 g1 rl1 r => ?_⟩
    obtain ⟨q1, q2, q3⟩ := rl1.wo
    refine ⟨F1, restW w.ch F1 H1, w, n1, ds, d, n', vs, by rw [List.append_nil], tk, zn_restW rl1.zn.ff, ⟨q1, q2, fun y c => ⟨(q3 y c).1, restW_in c⟩⟩, r, hk _ _ _ _ e1, e, fun v F' H' s z wo p => ?_⟩
    have keep : ∀ a o, H1 a = some o → ¬ w.ch a → H' a = some o := fun a o ha hn => by
      cases f : F1 a with
      | none => exact z.bb a o (restW_some ha f hn)
      | some u =>
        have : u = o := by
          have := rl1.zn.ff a u f
          rw [ha] at this
          exact (Option.some.inj this).symm
        subst this
        exact z.ff a _ (s a _ f)
    have stay : ∀ a o, H1 a = some o → F1 a = none → ¬ w.ch a → F' a = none := fun a o ha f hn => z.dj a o (restW_some ha f hn)
    have g2 : Go (some w) F1 H1 F' H' := ⟨s, fun a o ha hn => keep a o ha (hn w rfl)⟩
    have bw : ∀ a o, B a = some o → ¬ w.ch a := fun a o hb z => by
      rw [(q3 a z).2] at hb
      cases hb
    refine kk v F' H' (g1.trans g2) ⟨⟨z.ff, fun a o hb => keep a o (rl1.zn.bb a o hb) (bw a o hb), fun a o hb => stay a o (rl1.zn.bb a o hb) (rl1.zn.dj a o hb) (bw a o hb)⟩, ?_, fun j e he => ?_, rl1.ap, rl1.le⟩ p
    · exact ⟨wo.1, wo.2.1, fun y c => ⟨(wo.2.2 y c).1, (q3 y c).2⟩⟩
    · obtain ⟨u, h3, h4⟩ := rl1.sl j e he
      refine ⟨u, h3, ?_⟩
      cases e with
      | val d => exact Rp.mono s h4
      | own es =>
        obtain ⟨a, xs, rfl, z1, z2, z3, z4⟩ := h4
        have hn : ¬ w.ch a := z4.2 w rfl
        exact ⟨a, xs, rfl, keep _ _ z1 hn, z2.mono s, stay _ _ z1 z3 hn, z4⟩
      | dct kvs =>
        obtain ⟨a, rfl, z3, z4, z5⟩ := h4
        have hn : ¬ w.ch a := z4.2 w rfl
        rcases z5 with ⟨xs, z5, z6, z7⟩ | ⟨xs, ks, ek, z5, z6, z7⟩
        · exact ⟨a, rfl, stay _ _ z5 z3 hn, z4, .inl ⟨xs, keep _ _ z5 hn, z6, z7.mono s⟩⟩
        · exact ⟨a, rfl, stay _ _ z5 z3 hn, z4, .inr ⟨xs, ks, ek, keep _ _ z5 hn, z6, z7.mono s⟩⟩
      | wdr ws => exact h4
      | scr ns =>
        obtain ⟨a, e, h⟩ := h4
        exact ⟨a, e, s.seq h⟩
      | tabv d => exact ⟨Rp.mono s h4.1, h4.2⟩
end
/-- a def that draws: w is its first name -/
def startW (N : Nat) (ws : Tag) (ds : List PyData) : Env := some (.wdr ws) :: startE (N - 1) ds
def runW (body : SM) (N : Nat) : Tag → List PyData → OM PyData := fun ws ds => bnd (body (startW N ws ds)) fun r => match r with
  | .rt d => ret d
  | .nx _ => ret .none
  | _ => fail
theorem Rl.startW {K : PySem.W.Frag} {F B H : Hp} {N : List Str} {vs : List V} {ds : List PyData} {w : Wl} {n : Nat} (hN : 0 < N.length) (tk : w.tok (tabK K)) (z : Zn F B H) (wo : WOk F B H n (some w)) (r : RpAll K F vs ds) : Rl K F B (some w) (L2.start N (.ref w.self :: vs)) H (DL.startW N.length w.tag ds) n := by
  have e : L2.start N (.ref w.self :: vs) = some (.ref w.self) :: (vs.map some ++ List.replicate (N.length - 1 - vs.length) none) := by
    unfold L2.start
    rw [List.map_cons, List.length_cons, show N.length - (vs.length + 1) = N.length - 1 - vs.length by omega]
    rfl
  rw [e]
  refine ⟨z, wo, fun i e he => ?_, fun i j e e' v hij h1 h2 m1 m2 => ?_, ?_⟩
  · cases i with
    | zero =>
      cases he
      exact ⟨_, rfl, w, rfl, rfl, rfl, tk⟩
    | succ i =>
      obtain ⟨d, h1, rfl⟩ := startE_some (show (startE (N.length - 1) ds)[i]? = some (some e) from he)
      obtain ⟨x, h2, h3⟩ := r.get h1
      refine ⟨x, ?_, h3⟩
      show (vs.map some ++ List.replicate (N.length - 1 - vs.length) none)[i]? = _
      have hi := (List.getElem?_eq_some_iff.mp h2).1
      rw [List.getElem?_append_left (by simpa using hi), List.getElem?_map, h2]
      rfl
  · exfalso
    have zero : ∀ (j : Nat) (e : En), (DL.startW N.length w.tag ds)[j]? = some (some e) → e.mut = true → j = 0 := fun j e he hm => by
      cases j with
      | zero => rfl
      | succ j =>
        obtain ⟨d, h1, rfl⟩ := startE_some (show (startE (N.length - 1) ds)[j]? = some (some e) from he)
        cases hm
    exact hij ((zero i e h1 m1).trans (zero j e' h2 m2).symm)
  · unfold DL.startW startE
    simp only [List.length_cons, List.length_append, List.length_map, List.length_replicate, r.len]
section
variable {P : Program} {w : World} {K : PySem.W.Frag} {mg : Str → Option Value} {base : Heap}
theorem fnW_ok {x qual : Str} {st : Stmt} {f : Addr} {fd : FuncData} {N ps : List Str} {k k2 nn : Nat} {m : SM} (F : Fun K x qual st f fd) (S : FnScope N ps (defScope st)) (hps : ps.length = k2 + 1) (hnn : N.length = nn)
    (h : ∀ (cdv : Value) (A : Around) (outer : List PySem.Env) (s : Shared) (H : Hp) (E : XK), Room k (A.deeper (envOfC qual (defScope st) s.heap.objs.size f cdv)) → DSs (cxOf CX0 P w K mg base N qual (defScope st) f cdv A outer s H E).nox (defBody st) m) :
    FnOk P w K mg base CX0 (k + 1) f fd ps (SpW K k2 (runW m nn)) := by
  subst hnn
  have hN : 0 < N.length := by
    have := congrArg List.length S.pre
    rw [List.length_take] at this
    omega
  refine F.ok S (fun vs H Q E ⟨F0, B, w, n, ds, d, n', vs', e, _, z, wo, r, hl, _⟩ => by rw [e, List.length_cons, r.len, hl, hps]) fun cdv A outer s H vs Q E hr ⟨F0, B, w0, n, ds, d, n', vs', ev, tk, z, wo, r, hl, e, kk⟩ => ?_
  refine ⟨rdS K m, h cdv A outer s H E hr, ?_⟩
  obtain ⟨q, n1, e1, e⟩ := bnd_some e
  subst ev
  refine ⟨F0, B, some w0, _, n, q, n1, .startW hN tk z wo r, e1, ?_⟩
  cases q with
  | rt d =>
    obtain ⟨rfl, rfl⟩ := ret_some e
    exact fun v F' H' s z' w' p => kk v F' H' s z' w' p
  | nx e2 =>
    obtain ⟨rfl, rfl⟩ := ret_some e
    exact fun σ F' H' s rl => kk .non F' H' s rl.zn rl.wo .non
  | _ => cases e
end
end DL

/-! DL, part h: the dict of the draws, the laws' own defs. -/
namespace DL
open PySem PySem.Spec PyProof.Rows L2
section
variable {X : Cx} {st : Stmt} {e : Expr}
/-- w["at"] += 1 -/
def sInc (i : Nat) : SM := fun env n => match getW env i with
  | some (.draws _) => some (.nx env, n + 1)
  | _ => none
theorem ds_inc {i : Nat} (h : PS X st (sDAug (tVar i) (tC (.str "at")) (tC (.int 1)) rAdd)) : DS X st (sInc i) := h.imp fun D σ H ⟨F, B, W, env, n, r, n', rl, e, k⟩ => by
  unfold sInc at e
  split at e
  · rename_i ws hw
    cases e
    obtain ⟨v, h1, w, rfl, ht, rfl, _⟩ := rl.sl i _ (getW_some hw)
    obtain ⟨wa, wl, wt, rfl⟩ := Wl.tag_draws ht
    obtain ⟨⟨q1, qt⟩, q2, q3⟩ := id rl.wo
    refine ⟨_, h1, wa, .int (n : Int), rfl, .inl ⟨_, .inr ("at" : Str), .inl q1, rfl, rfl⟩, _, 1, rfl, rfl, _, .inl ⟨_, .inr ("at" : Str), q1, rfl, by show 2 < sizeLine; decide, rfl⟩, ?_⟩
    have hp : putK [(.inr ("draws" : Str), V.ref wl), (.inr ("at" : Str), V.int (n : Int))] (Sum.inr ("at" : Str) : Key) (V.int ((n : Int) + 1)) = [(.inr ("draws" : Str), V.ref wl), (.inr ("at" : Str), V.int ((n + 1 : Nat) : Int))] := rfl
    rw [hp]
    obtain ⟨q4, q5⟩ := q3 wa (.inl rfl)
    refine k σ F _ (.refl _) ⟨⟨same_mut rl.zn.ff q4, same_mut rl.zn.bb q5, rl.zn.dj⟩, ⟨⟨upd_same, fun T et => Wl.tab_keep (qt T et) (fun o e => ?_) fun b o e c => ?_⟩, q2, q3⟩, fun j e he => ?_, rl.ap, rl.le⟩
    · obtain ⟨ps, z, _⟩ := qt T et
      rw [upd_ne (show T.1 ≠ wa from fun y => by
        rw [y, q1] at z
        cases z)]
      exact e
    · rw [upd_ne (show b ≠ wa from fun y => by
        rw [y] at e
        exact Wl.dK_code q1 o e c)]
      exact e
    obtain ⟨u, h3, h4⟩ := rl.sl j e he
    refine ⟨u, h3, ?_⟩
    cases e with
    | val d => exact h4
    | own es =>
      obtain ⟨a, xs, rfl, z1, z2⟩ := h4
      have hn : a ≠ wa := fun z => z2.2.2.2 _ rfl (.inl z.symm)
      exact ⟨a, xs, rfl, by rw [upd_ne hn]; exact z1, z2⟩
    | dct kvs =>
      obtain ⟨a, rfl, z3, z4, z5⟩ := h4
      refine ⟨a, rfl, z3, z4, ?_⟩
      rw [upd_ne (show a ≠ wa from fun z => z4.2 _ rfl (.inl z.symm))]
      exact z5
    | wdr ws => exact h4
    | scr ns => exact h4
    | tabv d => exact h4
  · cases e
def dAt (i : Nat) : DM := fun env n => match getW env i with
  | some (.draws _) => some (.int (n : Int), n)
  | _ => none
theorem de_at {i : Nat} (h : PE X e (tDGet (tVar i) (tC (.str "at")))) : DE X e (dAt i) := h.imp fun σ H Q ⟨F, B, W, env, n, d, n', rl, e, k⟩ => by
  unfold dAt at e
  split at e
  · rename_i ws hw
    cases e
    obtain ⟨v, h1, w, rfl, ht, rfl, _⟩ := rl.sl i _ (getW_some hw)
    obtain ⟨wa, wl, wt, rfl⟩ := Wl.tag_draws ht
    obtain ⟨⟨q1, qt⟩, q2, q3⟩ := id rl.wo
    exact ⟨_, h1, wa, .int (n : Int), rfl, .inl ⟨_, .inr ("at" : Str), .inl q1, rfl, rfl⟩, k _ F H .refl rl (.int _)⟩
  · cases e
def dDr (i : Nat) : DM := fun env => lift (match getW env i with
  | some (.draws ws) => some (.list (ws.map PyData.int))
  | _ => none)
theorem de_dr {i : Nat} (h : PE X e (tDGet (tVar i) (tC (.str "draws")))) : DE X e (dDr i) := h.imp fun σ H Q ⟨F, B, W, env, n, d, n', rl, e, k⟩ => by
  obtain ⟨e1, rfl⟩ := lift_some e
  split at e1
  · rename_i ws hw
    cases e1
    obtain ⟨v, h1, w, rfl, ht, rfl, _⟩ := rl.sl i _ (getW_some hw)
    obtain ⟨wa, wl, wt, rfl⟩ := Wl.tag_draws ht
    obtain ⟨⟨q1, qt⟩, q2, q3⟩ := id rl.wo
    exact ⟨_, h1, wa, .ref wl, rfl, .inl ⟨_, .inr ("draws" : Str), .inl q1, rfl, rfl⟩, k _ F H .refl rl (.lst q2 (.ints _))⟩
  · cases e1
end

/-! ### _law_draws -/
def SpD (K : PySem.W.Frag) (f : List Int → List PyData → Option PyData) : Sp := fun vs H Q _ => ∃ F B a ns i d, vs = [.ref a, .int i] ∧ Zn F B H ∧ SqL K F a (ns.map V.int) ∧ f ns [.int i] = some d ∧ ∀ v F' H', Same F F' → Zn F' B H' → Rp K F' v d → Q v H'
def startS (N : Nat) (ns : List Int) (ds : List PyData) : Env := some (.scr ns) :: startE (N - 1) ds
def runD (body : SM) (N : Nat) : List Int → List PyData → Option PyData := fun ns ds => match body (startS N ns ds) 0 with
  | some (.rt d, _) => some d
  | _ => none
section
variable {P : Program} {w : World} {K : PySem.W.Frag} {mg : Str → Option Value} {base : Heap}
theorem fnD_ok {x qual : Str} {st : Stmt} {f : Addr} {fd : FuncData} {N ps : List Str} {k nn : Nat} {m : SM} (F : Fun K x qual st f fd) (S : FnScope N ps (defScope st)) (hps : ps.length = 2) (hnn : N.length = nn)
    (h : ∀ (cdv : Value) (A : Around) (outer : List PySem.Env) (s : Shared) (H : Hp) (E : XK), Room k (A.deeper (envOfC qual (defScope st) s.heap.objs.size f cdv)) → DSs (cxOf CX0 P w K mg base N qual (defScope st) f cdv A outer s H E).nox (defBody st) m) :
    FnOk P w K mg base CX0 (k + 1) f fd ps (SpD K (runD m nn)) := by
  subst hnn
  have hN : 2 ≤ N.length := by
    have := congrArg List.length S.pre
    rw [List.length_take] at this
    omega
  refine F.ok S (fun vs H Q E ⟨F0, B, a, ns, i, d, e, _⟩ => by rw [e, hps]; rfl) fun cdv A outer s H vs Q E hr ⟨F0, B, a, ns, i, d, ev, z, hS, e, kk⟩ => ?_
  refine ⟨rdS K m, h cdv A outer s H E hr, ?_⟩
  subst ev
  unfold runD at e
  split at e
  · rename_i d2 n2 h2
    cases e
    refine ⟨F0, B, none, _, 0, _, _, ?_, h2, fun v F' H' s z' _ p => kk v F' H' s z' p⟩
    have e : L2.start N [.ref a, .int i] = some (.ref a) :: (([V.int i] : List V).map some ++ List.replicate (N.length - 1 - ([V.int i] : List V).length) none) := by
      unfold L2.start
      rw [show N.length - ([V.ref a, V.int i] : List V).length = N.length - 1 - ([V.int i] : List V).length by simp only [List.length_cons, List.length_nil]; omega]
      rfl
    rw [e]
    refine ⟨z, trivial, fun j e he => ?_, fun j k e e' v _ h1 _ m1 => ?_, ?_⟩
    · cases j with
      | zero =>
        cases he
        exact ⟨_, rfl, a, rfl, hS⟩
      | succ j =>
        obtain ⟨d, h1, rfl⟩ := startE_some (show (startE (N.length - 1) [.int i])[j]? = some (some e) from he)
        obtain ⟨x, h2, h3⟩ := (RpAll.one (Rp.int (K := K) (F := F0) i)).get h1
        refine ⟨x, ?_, h3⟩
        show (([V.int i] : List V).map some ++ List.replicate (N.length - 1 - ([V.int i] : List V).length) none)[j]? = _
        have hi := (List.getElem?_eq_some_iff.mp h2).1
        rw [List.getElem?_append_left (by simpa using hi), List.getElem?_map, h2]
        rfl
    · exfalso
      cases j with
      | zero =>
        cases h1
        cases m1
      | succ j =>
        obtain ⟨d, _, rfl⟩ := startE_some (show (startE (N.length - 1) [.int i])[j]? = some (some e) from h1)
        cases m1
    · unfold startS startE
      simp
  · cases e
end
def dCallD (f : List Int → List PyData → Option PyData) (i : Nat) (m : AM) : DM := fun env => bnd (m env) fun ds => lift (match getS env i with
  | some ns => f ns ds
  | none => none)
theorem de_callD {X : Cx} {e : Expr} {i : Nat} {j : Int} {f : List Int → List PyData → Option PyData} {E : XK} (h : PE X e (tCall (SpD X.K f) [] E (tCons (tVar i) (tCons (tC (.int j)) tNil)))) : DE X e (dCallD f i (aCons (dC (.int j)) aNil)) := h.imp fun σ H Q ⟨F, B, W, env, n, d, n', rl, e, kk⟩ => by
  obtain ⟨ds, n1, e1, e⟩ := bnd_some e
  obtain ⟨e3, rfl⟩ := lift_some e
  have : (ds, n') = ([.int j], n) := (Option.some.inj (show some ([PyData.int j], n) = some (ds, n') from e1)).symm
  obtain ⟨rfl, rfl⟩ := Prod.mk.inj this
  cases hs : getS env i with
  | none => simp only [hs] at e3; cases e3
  | some ns =>
    simp only [hs] at e3
    obtain ⟨v, h1, a, rfl, h2⟩ := rl.sl i _ (getS_some hs)
    refine ⟨_, h1, F, rest F H, a, ns, j, d, rfl, zn_rest rl.zn.ff, h2, e3, fun v F' H' s z p => ?_⟩
    have gr := gr_rest rl.zn.ff s z
    exact kk v F' H' (.of gr) (rl.gr gr) p

/-! ### the laws -/
/-- draws as _law_draws makes them -/
structure Dr (ws : List Int) : Prop where
  len : ws.length = 200
  rng : ∀ x ∈ ws, 0 ≤ x ∧ x < 997
/-- _law_draws: the turns -/
def bTurnI : SM := sIf (tOf (dOp gtD (dVar 6) (dC (.int 0))))
      (sSeq (sApp 2 (dOp modD (dCallB intOfD (aCons (dVar 6) aNil)) (dC (.int 997)))) (sAsg (.nm 6) (dOp fdivD (dVar 6) (dC (.int 997))))) sPass
def bTurnA : SM :=
    sSeq (sAsg (.nm 5) (dCallB absD (aCons (dCallB intOfD (aCons (dIxS 0 (dVar 4)) aNil)) aNil)))
    (sSeq (sAsg (.nm 3) (dOp modD (dCallB intOfD (aCons (dOp addD (dOp addD (dOp mulD (dVar 3) (dC (.int 48271))) (dOp modD (dVar 5) (dC (.int 1000003)))) (dVar 4)) aNil)) (dC (.int 65537))))
    (sSeq (sAsg (.nm 6) (dC (.int 0)))
    (sSeq (sIf (tOf (dOp geD (dVar 5) (dOp powD (dC (.int 10)) (dC (.int 18))))) (sAsg (.nm 6) (dVar 5))
      (sSeq (sApp 2 (dOp modD (dCallB intOfD (aCons (dVar 5) aNil)) (dC (.int 997))))
        (sApp 2 (dOp modD (dOp modD (dCallB intOfD (aCons (dOp addD (dOp mulD (dVar 3) (dC (.int 69621))) (dC (.int 5))) aNil)) (dC (.int 65521))) (dC (.int 997))))))
    (sFor (itemsR1 (dC (.int 60))) (.nm 7) bTurnI))))
def bTurnB : SM := sSeq (sAsg (.nm 3) (dOp modD (dCallB intOfD (aCons (dOp addD (dOp addD (dOp mulD (dVar 3) (dC (.int 16807))) (dVar 4)) (dC (.int 1))) aNil)) (dC (.int 65537))))
      (sApp 2 (dOp modD (dCallB intOfD (aCons (dVar 3) aNil)) (dC (.int 997))))
/-- _law_draws -/
def bDraws : SM :=
  sSeq (sAsgF 2 (dDisp aNil)) (sSeq (sAsg (.nm 3) (dC (.int 7)))
  (sSeq (sFor (itemsR1 (dLenS 0)) (.nm 4) bTurnA)
  (sSeq (sFor (itemsR1 (dVar 1)) (.nm 4) bTurnB)
  (sRet (dLst (dSlL (dVarL 2) oNone (oSome (dVar 1))))))))
def fDraws : List Int → List PyData → Option PyData := runD bDraws 8
/-- _law_next -/
def bNext : SM := sSeq (sInc 0) (sSeq (sIf (tOf (dOp gtD (dAt 0) (dCallB lenD (aCons (dDr 0) aNil)))) (sRet (dC (.int 0))) sPass)
  (sRet (dOp modD (dCallB intOfD (aCons (dOp ixD (dDr 0) (dOp subD (dAt 0) (dC (.int 1)))) aNil)) (dVar 1))))
def fNext : Tag → List PyData → OM PyData := runW bNext 2
/-- law, for so many turns of holds -/
def bLaw (turns : Int) (holds : Tag → List PyData → OM PyData) : SM := sSeq (sFor (itemsR1 (dC (.int turns))) (.nm 2) (sIf (tNot (tOf (dCallW holds 1 aNil))) (sRet (dC (.bool false))) sPass)) (sRet (dC (.bool true)))
def SpLaw (K : PySem.W.Frag) (t : Option (Addr × Str)) : Sp := fun vs H Q _ => ∃ (a : Addr) (ns : List Int), vs = [.ref a] ∧ SqL K H a (ns.map V.int) ∧ ns.length ≤ 63 ∧ (∀ T, t = some T → H T.1 = some (.tbl #[])) ∧ ∀ H', Q (.bl true) H'
end DL

/-! DL, part s: how a denotation is reckoned, step by step (for simp). -/
namespace DL
open PySem PySem.Spec PyProof.Rows L2
section
variable {α β : Type}
@[simp] theorem bnd_ret (a : α) (f : α → OM β) : bnd (ret a) f = f a := (rfl)
@[simp] theorem bnd_fail (f : α → OM β) : bnd (fail : OM α) f = fail := (rfl)
@[simp] theorem lift_some_eq (a : α) : lift (some a) = ret a := (rfl)
@[simp] theorem lift_none_eq : lift (none : Option α) = fail := (rfl)
@[simp] theorem ite_ret (c : Prop) [Decidable c] (a b : α) : (if c then ret a else ret b) = ret (if c then a else b) := by split <;> (exact (rfl))
@[simp] theorem ite_int (c : Prop) [Decidable c] (a b : Int) : (if c then PyData.int a else PyData.int b) = .int (if c then a else b) := by split <;> (exact (rfl))
@[simp] theorem ite_boolD (c : Prop) [Decidable c] (a b : Bool) : (if c then PyData.bool a else PyData.bool b) = .bool (if c then a else b) := by split <;> (exact (rfl))
@[simp] theorem ite_someD (c : Prop) [Decidable c] (a b : PyData) : (if c then some a else some b) = some (if c then a else b) := by split <;> (exact (rfl))
theorem ret_ap (a : α) (n : Nat) : ret a n = some (a, n) := (rfl)
theorem bnd_ite (c : Prop) [Decidable c] (x y : OM α) (f : α → OM β) : bnd (if c then x else y) f = if c then bnd x f else bnd y f := by split <;> rfl
theorem lift_ite (c : Prop) [Decidable c] (x y : Option α) : lift (if c then x else y) = if c then lift x else lift y := by split <;> rfl
variable (env : Env) (i j k : Nat) (d x y : PyData) (m a b : DM) (t u : TM) (s r : SM) (ms : AM) (p : Pt)
@[simp] theorem e_C : dC d env = ret d := (rfl)
@[simp] theorem e_Var : dVar i env = lift (getV env i) := (rfl)
@[simp] theorem e_VarL : dVarL i env = lift (getL env i) := (rfl)
@[simp] theorem e_getV : getV env i = (match env[i]? with
  | some (some (.val d)) => some d
  | _ => none) := (rfl)
@[simp] theorem e_getL : getL env i = (match env[i]? with
  | some (some (.val d)) => some d
  | some (some (.own ds)) => some (.list ds)
  | _ => none) := (rfl)
@[simp] theorem e_getO : getO env i = (match env[i]? with
  | some (some (.own ds)) => some ds
  | _ => none) := (rfl)
@[simp] theorem e_getS : getS env i = (match env[i]? with
  | some (some (.scr ds)) => some ds
  | _ => none) := (rfl)
@[simp] theorem e_getW : getW env i = (match env[i]? with
  | some (some (.wdr ds)) => some ds
  | _ => none) := (rfl)
@[simp] theorem e_Op (g : PyData → PyData → Option PyData) : dOp g a b env = bnd (a env) fun x => bnd (b env) fun y => lift (g x y) := (rfl)
@[simp] theorem e_OpF (g : PyData → PyData → Option (List PyData)) : dOpF g a b env = bnd (a env) fun x => bnd (b env) fun y => lift (g x y) := (rfl)
@[simp] theorem e_Un (g : PyData → Option PyData) : dUn g m env = bnd (m env) fun d => lift (g d) := (rfl)
@[simp] theorem e_Lst : dLst ms env = bnd (ms env) fun ds => ret (.list ds) := (rfl)
@[simp] theorem e_tOf : tOf m env = bnd (m env) fun d => lift (match d with
  | .bool b => some b
  | _ => none) := (rfl)
@[simp] theorem e_tAnd : tAnd t u env = bnd (t env) fun b => if b = true then u env else ret false := (rfl)
@[simp] theorem e_tOr : tOr t u env = bnd (t env) fun b => if b = true then ret true else u env := (rfl)
@[simp] theorem e_tNot : tNot t env = bnd (t env) fun b => ret (!b) := (rfl)
@[simp] theorem e_tTrue : tTrue env = ret true := (rfl)
@[simp] theorem e_And : dAnd a b env = bnd (tOf a env) fun c => if c = true then b env else ret (.bool false) := (rfl)
@[simp] theorem e_Or : dOr a b env = bnd (tOf a env) fun c => if c = true then ret (.bool true) else b env := (rfl)
@[simp] theorem e_Not : dNot a env = bnd (tOf a env) fun c => ret (.bool (!c)) := (rfl)
@[simp] theorem e_If : dIf t a b env = bnd (t env) fun c => if c = true then a env else b env := (rfl)
@[simp] theorem e_aNil : aNil env = ret [] := (rfl)
@[simp] theorem e_aCons : aCons m ms env = bnd (m env) fun d => bnd (ms env) fun ds => ret (d :: ds) := (rfl)
@[simp] theorem e_Tup : dTup ms env = bnd (ms env) fun ds => if ds.length ≤ lim then ret (.tuple ds) else fail := (rfl)
@[simp] theorem e_Disp : dDisp ms env = bnd (ms env) fun ds => if ds.length ≤ lim then ret ds else fail := (rfl)
@[simp] theorem e_CallB (g : List PyData → Option PyData) : dCallB g ms env = bnd (ms env) fun ds => lift (g ds) := (rfl)
@[simp] theorem e_CallF (g : List PyData → Option (List PyData)) : dCallF g ms env = bnd (ms env) fun ds => lift (g ds) := (rfl)
@[simp] theorem e_CallW (g : Tag → List PyData → OM PyData) : dCallW g i ms env = bnd (ms env) fun ds => match getW env i with
  | some ws => g ws ds
  | none => fail := (rfl)
@[simp] theorem e_itemsL : itemsL m env = bnd (m env) fun d => lift (match d with
  | .list ds => some ds
  | _ => none) := (rfl)
@[simp] theorem e_itemsT : itemsT m env = bnd (m env) fun d => lift (match d with
  | .tuple ds => some ds
  | _ => none) := (rfl)
@[simp] theorem e_itemsR1 : itemsR1 m env = bnd (m env) fun d => lift (match d with
  | .int j => if -big ≤ j ∧ j ≤ big then some (rangeD 0 j) else none
  | _ => none) := (rfl)
@[simp] theorem e_itemsR2 : itemsR2 a b env = bnd (a env) fun x => bnd (b env) fun y => lift (match x, y with
  | .int i, .int j => if -big ≤ i ∧ i ≤ big ∧ -big ≤ j ∧ j ≤ big then some (rangeD i j) else none
  | _, _ => none) := (rfl)
@[simp] theorem e_Lc (vs : List Nat) : dLc ms p t m vs env = bnd (ms env) fun ds => if ds.length ≤ lim ∧ noMut env vs = true then lcLoop p t m (wipeE env vs) ds else fail := (rfl)
@[simp] theorem e_LenS : dLenS i env = lift (match getS env i with
  | some ns => some (.int (ns.length : Int))
  | none => none) := (rfl)
@[simp] theorem e_IxS : dIxS i m env = bnd (m env) fun d => lift (match getS env i, d with
  | some ns, .int j => (match atI ns j with
    | some v => some (.int v)
    | none => none)
  | _, _ => none) := (rfl)
@[simp] theorem e_oNone : oNone env = ret none := (rfl)
@[simp] theorem e_oSome : oSome m env = bnd (m env) fun d => lift (match d with
  | .int i => some (some i)
  | _ => none) := (rfl)
@[simp] theorem e_SlT (lo hi : OMn) : dSlT m lo hi env = bnd (m env) fun d => bnd (lo env) fun l => bnd (hi env) fun h => lift (match d with
  | .tuple ds => some (.tuple (cutD ds l h))
  | _ => none) := (rfl)
@[simp] theorem e_SlL (lo hi : OMn) : dSlL m lo hi env = bnd (m env) fun d => bnd (lo env) fun l => bnd (hi env) fun h => lift (match d with
  | .list ds => some (cutD ds l h)
  | _ => none) := (rfl)
@[simp] theorem e_Chain (g g' : PyData → PyData → Option PyData) (c : DM) : dChain g g' a b c env = bnd (a env) fun x => bnd (b env) fun y => bnd (lift (g x y)) fun z => match z with
  | .bool true => bnd (c env) fun w => lift (g' y w)
  | .bool false => ret (.bool false)
  | _ => fail := (rfl)
/-! statements -/
@[simp] theorem e_Pass : sPass env = ret (.nx env) := (rfl)
@[simp] theorem e_Brk : sBrk env = ret (.bk env) := (rfl)
@[simp] theorem e_Cnt : sCnt env = ret (.ct env) := (rfl)
@[simp] theorem e_Fail : sFail env = fail := (rfl)
@[simp] theorem e_Seq : sSeq s r env = bnd (s env) fun q => match q with
  | .nx e => r e
  | .ct e => ret (.ct e)
  | .bk e => ret (.bk e)
  | .rt d => ret (.rt d) := (rfl)
@[simp] theorem e_Ret : sRet m env = bnd (m env) fun d => ret (.rt d) := (rfl)
@[simp] theorem e_Drop : sDrop m env = bnd (m env) fun _ => ret (.nx env) := (rfl)
@[simp] theorem e_sIf : sIf t s r env = bnd (t env) fun c => if c = true then s env else r env := (rfl)
@[simp] theorem e_Asg : sAsg p m env = bnd (m env) fun d => match bindP p d env with
  | none => fail
  | some e => ret (.nx e) := (rfl)
@[simp] theorem e_AsgF : sAsgF i ms env = bnd (ms env) fun ds => ret (.nx (env.set i (some (.own ds)))) := (rfl)
@[simp] theorem e_Par : sPar i j ms env = bnd (ms env) fun ds => match ds with
  | [a, b] => ret (.nx ((env.set i (some (.val a))).set j (some (.val b))))
  | _ => fail := (rfl)
@[simp] theorem e_Par3 : sPar3 i j k ms env = bnd (ms env) fun ds => match ds with
  | [a, b, c] => ret (.nx (((env.set i (some (.val a))).set j (some (.val b))).set k (some (.val c))))
  | _ => fail := (rfl)
@[simp] theorem e_AugI (f : Int → Int → Int) : sAugI i f m env = bnd (m env) fun d => match getV env i, d with
  | some (.int a), .int b => ret (.nx (env.set i (some (.val (.int (f a b))))))
  | _, _ => fail := (rfl)
@[simp] theorem e_For : sFor ms p s env = bnd (ms env) fun ds => forLoop p s ds env := (rfl)
@[simp] theorem e_While (n : Nat) : sWhile n t s env = whLoop t s n env := (rfl)
@[simp] theorem e_App : sApp i m env = bnd (m env) fun d => match getO env i with
  | some ds => if ds.length < lim then ret (.nx (env.set i (some (.own (ds ++ [d]))))) else fail
  | none => fail := (rfl)
@[simp] theorem e_Ext : sExt i m env = bnd (m env) fun d => match getO env i, d with
  | some ds, .list es => if ds.length + es.length ≤ lim then ret (.nx (env.set i (some (.own (ds ++ es))))) else fail
  | _, _ => fail := (rfl)
@[simp] theorem e_Pop : sPop i env = (match getO env i with
  | some ds => if ds.length = 0 then fail else ret (.nx (env.set i (some (.own ds.dropLast))))
  | none => fail) := (rfl)
@[simp] theorem e_Frz : sFrz i s env = s (frz env i) := (rfl)
@[simp] theorem e_frz : frz env i = (match getO env i with
  | some ds => env.set i (some (.val (.list ds)))
  | none => env) := (rfl)
@[simp] theorem e_bindNm : bindP (.nm i) d env = some (env.set i (some (.val d))) := (rfl)
@[simp] theorem e_bindTp (ps : List Pt) (ds : List PyData) : bindP (.tp ps) (.tuple ds) env = bindPs ps ds env := (rfl)
@[simp] theorem e_bindNil : bindPs [] [] env = some env := (rfl)
@[simp] theorem e_bindCons (ps : List Pt) (ds : List PyData) : bindPs (p :: ps) (d :: ds) env = (match bindP p d env with
  | none => none
  | some e => bindPs ps ds e) := (rfl)
@[simp] theorem e_wipeNil : wipeE env [] = env := (rfl)
@[simp] theorem e_wipeCons (vs : List Nat) : wipeE env (i :: vs) = (wipeE env vs).set i none := (rfl)
@[simp] theorem e_noMut (vs : List Nat) : noMut env vs = vs.all fun i => match env[i]? with
  | some (some e) => !e.mut
  | _ => true := (rfl)
@[simp] theorem mut_val : (En.val d).mut = false := (rfl)
@[simp] theorem mut_scr (ns : List Int) : (En.scr ns).mut = false := (rfl)
@[simp] theorem mut_own (ns : List PyData) : (En.own ns).mut = true := (rfl)
@[simp] theorem mut_wdr (ns : Tag) : (En.wdr ns).mut = true := (rfl)
/-! operations -/
variable (v w : Int)
@[simp] theorem v_add : addD (.int v) (.int w) = some (.int (v + w)) := (rfl)
@[simp] theorem v_sub : subD (.int v) (.int w) = some (.int (v - w)) := (rfl)
@[simp] theorem v_mul : mulD (.int v) (.int w) = if (-18446744073709551616 < v ∧ v < 18446744073709551616) ∨ (-18446744073709551616 < w ∧ w < 18446744073709551616) then some (.int (v * w)) else none := by
  simp [mulD, intD]
@[simp] theorem v_fdiv : fdivD (.int v) (.int w) = if 0 < w ∧ w < 1073741824 then some (.int (v / w)) else none := by simp [fdivD, intD]
@[simp] theorem v_mod : modD (.int v) (.int w) = if 0 < w then some (.int (v % w)) else none := by simp [modD, intD]
@[simp] theorem v_lt : ltD (.int v) (.int w) = some (.bool (decide (v < w))) := (rfl)
@[simp] theorem v_le : leD (.int v) (.int w) = some (.bool (decide (v ≤ w))) := (rfl)
@[simp] theorem v_gt : gtD (.int v) (.int w) = some (.bool (decide (w < v))) := (rfl)
@[simp] theorem v_ge : geD (.int v) (.int w) = some (.bool (decide (w ≤ v))) := (rfl)
@[simp] theorem v_neg : negD (.int v) = some (.int (-v)) := (rfl)
@[simp] theorem v_eqI : eqD (.int v) (.int w) = some (.bool (decide (v = w))) := by
  have : eqD (.int v) (.int w) = some (.bool (v == w)) := (rfl)
  rw [this, Bool.beq_eq_decide_eq]
@[simp] theorem v_neI : neD (.int v) (.int w) = some (.bool (!decide (v = w))) := by
  have : neD (.int v) (.int w) = some (.bool (!(v == w))) := (rfl)
  rw [this, Bool.beq_eq_decide_eq]
@[simp] theorem v_pow : powD (.int v) (.int w) = if 0 ≤ w ∧ w ≤ 1000000 ∧ v.natAbs < 2 ^ 64 then some (.int (v ^ w.toNat)) else none := by
  simp [powD, intD, and_assoc]
@[simp] theorem v_arg1 (g : PyData → Option PyData) : arg1 g [d] = g d := (rfl)
@[simp] theorem v_arg2 (g : PyData → PyData → Option PyData) : arg2 g [x, y] = g x y := (rfl)
@[simp] theorem v_intI : intOfD [.int v] = some (.int v) := (rfl)
@[simp] theorem v_intB (c : Bool) : intOfD [.bool c] = some (.int (if c = true then 1 else 0)) := (rfl)
@[simp] theorem v_abs : absD [.int v] = some (.int (if v < 0 then -v else v)) := (rfl)
@[simp] theorem v_lenL (ds : List PyData) : lenD [.list ds] = some (.int (ds.length : Int)) := (rfl)
@[simp] theorem v_lenT (ds : List PyData) : lenD [.tuple ds] = some (.int (ds.length : Int)) := (rfl)
@[simp] theorem v_ixL (ds : List PyData) : ixD (.list ds) (.int v) = atI ds v := (rfl)
@[simp] theorem v_ixT (ds : List PyData) : ixD (.tuple ds) (.int v) = atI ds v := (rfl)
@[simp] theorem v_is (d : PyData) : isD d .none = some (.bool (isNone d)) := (rfl)
@[simp] theorem v_isnt (d : PyData) : isntD d .none = some (.bool (!isNone d)) := (rfl)
@[simp] theorem v_max2 : maxD [.int v, .int w] = some (.int (if w > v then w else v)) := (rfl)
@[simp] theorem v_min2 : minD [.int v, .int w] = some (.int (if w < v then w else v)) := (rfl)
@[simp] theorem isNone_int : isNone (.int v) = false := (rfl)
@[simp] theorem isNone_non : isNone .none = true := (rfl)
@[simp] theorem isNone_tup (ds : List PyData) : isNone (.tuple ds) = false := (rfl)
@[simp] theorem isNone_str (z : Str) : isNone (.str z) = false := (rfl)
end
end DL

/-! DL, part i: constants of the top, comprehensions under a name, the draws' values, the law's frame. -/
namespace DL
open PySem PySem.Spec PyProof.Rows L2
/-- a constant of the module, by its datum -/
def KC (K : PySem.W.Frag) (mg : Str → Option Value) (x : Str) (d : PyData) : Prop := ∃ u v, mg x = some u ∧ RelV v u ∧ ∀ F, Rp K F v d
theorem de_glob {X : Cx} {x : Str} {d : PyData} {pos : Pos} (hg : Gl X x) (h : KC X.K X.mg x d) (hd : (x == ("__debug__" : Str)) = false := by decide) : DE X (.Name x pos) (dC d) := by
  obtain ⟨u, v, h1, h2, h3⟩ := h
  exact de_c (pe_glob hg h1 h2 hd) h3
section
variable {X : Cx} {st : Stmt}
theorem ds_asgLcF {src : AM} {p : Pt} {t : TM} {m : DM} {vs : List Nat} {i : Nat} (h : PS X st (tAsg (tLc (rdI X.K src) (gOf X.K p) (rdT X.K t) (rdE X.K m) vs) (gName i))) (hp : ∀ i ∈ p.slots, i ∈ vs := by decide) : DS X st (sAsgF i (dLc src p t m vs)) :=
  ds_asgF (h.imp fun D σ H w => rd_lc hp w)
theorem rd_lst {K : PySem.W.Frag} {m : AM} {σ : L2.St} {H : Hp} {Q : VK} (h : rdE K (dLst m) σ H Q) : rdF K m σ H Q := by
  obtain ⟨F, B, W, env, n, d, n', rl, e, k⟩ := h
  obtain ⟨ds, n1, e1, e2⟩ := bnd_some e
  obtain ⟨rfl, rfl⟩ := ret_some e2
  refine ⟨F, B, W, env, n, ds, _, rl, e1, fun p xs F' H' s r hp h' f a => ?_⟩
  exact k _ _ _ (s.trans ⟨same_new f, fun _ _ e _ => e⟩) (r.freeze h' f (same_none rl.zn.bb hp) (rl.wo.ne hp) (rl.mut_ne hp)) (.lst upd_same (a.mono (same_new f)))
theorem ds_asgLc {src : AM} {p : Pt} {t : TM} {m : DM} {vs : List Nat} {i : Nat} (h : PS X st (tAsg (tLc (rdI X.K src) (gOf X.K p) (rdT X.K t) (rdE X.K m) vs) (gName i))) (hp : ∀ i ∈ p.slots, i ∈ vs := by decide) : DS X st (sAsg (.nm i) (dLst (dLc src p t m vs))) :=
  ds_asg (h.imp fun D σ H w => rd_lc hp (rd_lst w))
end

theorem bnd_of {α β : Type} {m : OM α} {f : α → OM β} {n n' : Nat} {a : α} (h : m n = some (a, n')) : bnd m f n = f a n' := by
  unfold bnd
  rw [h]
/-! ### loops by an invariant -/
theorem forLoop_inv {p : Pt} {s : SM} {n : Nat} : ∀ {ds : List PyData} {env : Env} (I : Nat → Env → Prop) (h0 : I 0 env) (hs : ∀ (i : Nat) (d : PyData) (e : Env), ds[i]? = some d → I i e → ∃ e1 e2, bindP p d e = some e1 ∧ s e1 n = some (.nx e2, n) ∧ I (i + 1) e2),
    ∃ e', forLoop p s ds env n = some (.nx e', n) ∧ I ds.length e'
  | [], env, I, h0, _ => ⟨env, rfl, h0⟩
  | d :: ds, env, I, h0, hs => by
    obtain ⟨e1, e2, h1, h2, h3⟩ := hs 0 d env rfl h0
    obtain ⟨e', h4, h5⟩ := forLoop_inv (ds := ds) (env := e2) (fun i => I (i + 1)) h3 fun i d e hd hi => hs (i + 1) d e hd hi
    refine ⟨e', ?_, h5⟩
    simp only [forLoop, h1, bnd, h2]
    exact h4
/-- .. where the draws go on -/
theorem forLoop_invN {p : Pt} {s : SM} : ∀ {ds : List PyData} {env : Env} {n : Nat} (I : Env → Prop) (h0 : I env) (hs : ∀ (d : PyData) (e : Env) (n : Nat), d ∈ ds → I e → ∃ e1 e2 n', bindP p d e = some e1 ∧ s e1 n = some (.nx e2, n') ∧ I e2),
    ∃ e' n', forLoop p s ds env n = some (.nx e', n') ∧ I e'
  | [], env, n, I, h0, _ => ⟨env, n, rfl, h0⟩
  | d :: ds, env, n, I, h0, hs => by
    obtain ⟨e1, e2, n1, h1, h2, h3⟩ := hs d env n List.mem_cons_self h0
    obtain ⟨e', n', h4, h5⟩ := forLoop_invN (ds := ds) (env := e2) (n := n1) I h3 fun d e n hd hi => hs d e n (List.mem_cons_of_mem _ hd) hi
    refine ⟨e', n', ?_, h5⟩
    simp only [forLoop, h1, bnd, h2]
    exact h4

/-! ### what _law_draws gives -/
def InR (ws : List Int) : Prop := ∀ x ∈ ws, 0 ≤ x ∧ x < 997
theorem InR.snoc {ws : List Int} {x : Int} (h : InR ws) (h0 : 0 ≤ x) (h1 : x < 997) : InR (ws ++ [x]) := fun y hy => by
  rcases List.mem_append.mp hy with hy | hy
  · exact h y hy
  · rw [List.mem_singleton.mp hy]
    exact ⟨h0, h1⟩
theorem map_snoc (ws : List Int) (x : Int) : ws.map PyData.int ++ [.int x] = (ws ++ [x]).map PyData.int := by simp
def InvA (ns : List Int) (m : Nat) (env : Env) : Prop := ∃ ws mixed x4 x5 x6 x7, env = [some (.scr ns), some (.val (.int 200)), some (.own (ws.map PyData.int)), some (.val (.int mixed)), x4, x5, x6, x7] ∧ InR ws ∧ ws.length ≤ m ∧ 0 ≤ mixed ∧ mixed < 65537
theorem atI_at {α : Type} {xs : List α} {i : Nat} (h : i < xs.length) : atI xs (i : Int) = some xs[i] := atI_nat (List.getElem?_eq_getElem h)
theorem draws_inner (ns : List Int) (ws : List Int) (mixed : Int) (x4 x5 : Option En) (rest : Int) (x7 : Option En) (n m : Nat) (hr : InR ws) (hl : ws.length ≤ m) (hm : m ≤ 10000) (h0 : 0 ≤ mixed) (h1 : mixed < 65537) :
    ∃ e', sFor (itemsR1 (dC (.int 60))) (.nm 7) bTurnI [some (.scr ns), some (.val (.int 200)), some (.own (ws.map PyData.int)), some (.val (.int mixed)), x4, x5, some (.val (.int rest)), x7] n = some (.nx e', n) ∧ InvA ns (m + 60) e' := by
  have h60 : itemsR1 (dC (.int 60)) [some (.scr ns), some (.val (.int 200)), some (.own (ws.map PyData.int)), some (.val (.int mixed)), x4, x5, some (.val (.int rest)), x7] = ret (rangeD 0 60) := by
    simp [big]
  rw [e_For, h60, bnd_ret]
  obtain ⟨e', h2, h3⟩ := forLoop_inv (p := .nm 7) (n := n) (ds := rangeD 0 60) (s := bTurnI)
    (env := [some (.scr ns), some (.val (.int 200)), some (.own (ws.map PyData.int)), some (.val (.int mixed)), x4, x5, some (.val (.int rest)), x7])
    (fun i env => ∃ ws rest x7, env = [some (.scr ns), some (.val (.int 200)), some (.own (ws.map PyData.int)), some (.val (.int mixed)), x4, x5, some (.val (.int rest)), x7] ∧ InR ws ∧ ws.length ≤ m + i)
    ⟨ws, rest, x7, rfl, hr, hl⟩ fun i d e hd ⟨ws, rest, x7, he, hr, hl⟩ => by
      have hi : i < 60 := by
        have := (List.getElem?_eq_some_iff.mp hd).1
        rwa [rangeD_len] at this
      subst he
      by_cases hp : 0 < rest
      · refine ⟨_, [some (.scr ns), some (.val (.int 200)), some (.own ((ws ++ [rest % 997]).map PyData.int)), some (.val (.int mixed)), x4, x5, some (.val (.int (rest / 997))), some (.val d)], rfl, ?_, _, _, _, rfl, hr.snoc (Int.emod_nonneg _ (by decide)) (Int.emod_lt_of_pos _ (by decide)), by simp; omega⟩
        have hw : ws.length < lim := by
          unfold lim
          omega
        unfold bTurnI
        simp [hp, hw, ret_ap]
      · refine ⟨_, [some (.scr ns), some (.val (.int 200)), some (.own (ws.map PyData.int)), some (.val (.int mixed)), x4, x5, some (.val (.int rest)), some (.val d)], rfl, ?_, _, _, _, rfl, hr, by omega⟩
        unfold bTurnI
        simp [hp, ret_ap]
  obtain ⟨ws, rest, x7, rfl, hr, hl⟩ := h3
  exact ⟨_, h2, ws, mixed, _, _, _, _, rfl, hr, by rw [rangeD_len] at hl; exact hl, h0, h1⟩
theorem draws_turn (ns : List Int) (hn : ns.length ≤ 63) (i : Nat) (hi : i < ns.length) (e : Env) (n : Nat) (h : InvA ns (62 * i) e) :
    ∃ e1 e2, bindP (.nm 4) (.int (0 + (i : Int))) e = some e1 ∧ bTurnA e1 n = some (.nx e2, n) ∧ InvA ns (62 * (i + 1)) e2 := by
  obtain ⟨ws, mixed, x4, x5, x6, x7, rfl, hr, hl, h0, h1⟩ := h
  generalize hc : (if ns[i] < 0 then -ns[i] else ns[i]) = cell
  generalize hm : (mixed * 48271 + cell % 1000003 + (i : Int)) % 65537 = mix
  have hm0 : 0 ≤ mix := by rw [← hm]; exact Int.emod_nonneg _ (by decide)
  have hm1 : mix < 65537 := by rw [← hm]; exact Int.emod_lt_of_pos _ (by decide)
  have hat : atI ns (i : Int) = some ns[i] := atI_at hi
  have l1 : ws.length < lim := by
    unfold lim
    omega
  have l2 : ws.length + 1 < lim := by
    unfold lim
    omega
  have ex : ∃ ws' rest, InR ws' ∧ ws'.length ≤ ws.length + 2 ∧ bTurnA [some (.scr ns), some (.val (.int 200)), some (.own (ws.map PyData.int)), some (.val (.int mixed)), some (.val (.int (0 + (i : Int)))), x5, x6, x7] =
      sFor (itemsR1 (dC (.int 60))) (.nm 7) bTurnI [some (.scr ns), some (.val (.int 200)), some (.own (ws'.map PyData.int)), some (.val (.int mix)), some (.val (.int (0 + (i : Int)))), some (.val (.int cell)), some (.val (.int rest)), x7] := by
    unfold bTurnA
    generalize sFor (itemsR1 (dC (.int 60))) (.nm 7) bTurnI = inner
    by_cases hb : (1000000000000000000 : Int) ≤ cell
    · refine ⟨ws, cell, hr, by omega, ?_⟩
      simp [hat, hc, hm, hb]
    · refine ⟨ws ++ [cell % 997, (mix * 69621 + 5) % 65521 % 997], 0, ?_, by simp, ?_⟩
      · intro x hx
        rcases List.mem_append.mp hx with hx | hx
        · exact hr x hx
        · simp only [List.mem_cons, List.not_mem_nil, or_false] at hx
          rcases hx with rfl | rfl
          · exact ⟨Int.emod_nonneg _ (by decide), Int.emod_lt_of_pos _ (by decide)⟩
          · exact ⟨Int.emod_nonneg _ (by decide), Int.emod_lt_of_pos _ (by decide)⟩
      · simp [hat, hc, hm, hb, l1, l2]
  obtain ⟨ws', rest, q1, q2, q3⟩ := ex
  obtain ⟨e', q4, q5⟩ := draws_inner ns ws' mix (some (.val (.int (0 + (i : Int))))) (some (.val (.int cell))) rest x7 n (62 * i + 2) q1 (by omega) (by omega) hm0 hm1
  refine ⟨_, e', rfl, (congrFun q3 n).trans q4, ?_⟩
  obtain ⟨ws, mixed, x4, x5, x6, x7, he, hr, hl, h0, h1⟩ := q5
  exact ⟨ws, mixed, x4, x5, x6, x7, he, hr, by omega, h0, h1⟩
theorem rangeD_at {lo hi : Int} {i : Nat} {d : PyData} (h : (rangeD lo hi)[i]? = some d) : d = .int (lo + (i : Int)) ∧ (i : Int) < hi - lo := by
  have hi' := (List.getElem?_eq_some_iff.mp h).1
  rw [rangeD_get hi'] at h
  rw [rangeD_len] at hi'
  exact ⟨(Option.some.inj h).symm, by omega⟩
theorem draws_ok (ns : List Int) (hn : ns.length ≤ 63) : ∃ ws, fDraws ns [.int 200] = some (.list (ws.map PyData.int)) ∧ Dr ws := by
  obtain ⟨e', h1, h2⟩ := forLoop_inv (p := .nm 4) (n := 0) (s := bTurnA) (ds := rangeD 0 (ns.length : Int)) (env := [some (.scr ns), some (.val (.int 200)), some (.own []), some (.val (.int 7)), none, none, none, none])
    (fun i e => InvA ns (62 * i) e) ⟨[], 7, none, none, none, none, rfl, fun _ h => absurd h (by simp), Nat.zero_le _, by decide, by decide⟩ (fun i d e hd h => by
      obtain ⟨rfl, hi⟩ := rangeD_at hd
      exact draws_turn ns hn i (by omega) e 0 h)
  rw [rangeD_len] at h2
  obtain ⟨ws, mixed, x4, x5, x6, x7, rfl, hr, hl, h0, h1'⟩ := h2
  obtain ⟨e2, h3, h4⟩ := forLoop_inv (p := .nm 4) (n := 0) (s := bTurnB) (ds := rangeD 0 200) (env := [some (.scr ns), some (.val (.int 200)), some (.own (ws.map PyData.int)), some (.val (.int mixed)), x4, x5, x6, x7])
    (fun i e => ∃ ws' mixed x4, e = [some (.scr ns), some (.val (.int 200)), some (.own (ws'.map PyData.int)), some (.val (.int mixed)), x4, x5, x6, x7] ∧ InR ws' ∧ ws'.length = ws.length + i ∧ 0 ≤ mixed ∧ mixed < 65537)
    ⟨ws, mixed, x4, rfl, hr, rfl, h0, h1'⟩ (fun i d e hd ⟨ws', mixed, x4, he, hr, hl2, h0, h1⟩ => by
      obtain ⟨rfl, hi⟩ := rangeD_at hd
      subst he
      have l1 : ws'.length < lim := by
        unfold lim
        omega
      refine ⟨_, _, rfl, ?_, ws' ++ [(mixed * 16807 + (i : Int) + 1) % 65537 % 997], (mixed * 16807 + (i : Int) + 1) % 65537, some (.val (.int (0 + (i : Int)))), rfl, hr.snoc (Int.emod_nonneg _ (by decide)) (Int.emod_lt_of_pos _ (by decide)), by simp; omega, Int.emod_nonneg _ (by decide), Int.emod_lt_of_pos _ (by decide)⟩
      unfold bTurnB
      simp [l1, ret_ap])
  obtain ⟨ws', mixed', x4', rfl, hr', hl', _, _⟩ := h4
  rw [rangeD_len] at hl'
  refine ⟨ws'.take 200, ?_, ⟨by rw [List.length_take]; omega, fun x hx => hr' x (List.mem_of_mem_take hx)⟩⟩
  have hb : -big ≤ (ns.length : Int) ∧ (ns.length : Int) ≤ big := by
    unfold big
    omega
  have hcut : cutD (ws'.map PyData.int) none (some 200) = (ws'.take 200).map PyData.int := by
    unfold cutD
    rw [show HT.sIx (ws'.map PyData.int).length 0 none = 0 from rfl, List.drop_zero, Nat.sub_zero, show (200 : Int) = ((200 : Nat) : Int) from rfl, HT.sIx_nat, List.length_map, Nat.min_eq_left (by omega), List.map_take]
  unfold fDraws runD
  have : bDraws (startS 8 ns [.int 200]) 0 = some (.rt (.list ((ws'.take 200).map PyData.int)), 0) := by
    rw [← hcut]
    show bDraws [some (.scr ns), some (.val (.int 200)), none, none, none, none, none, none] 0 = _
    have e0 : bDraws [some (.scr ns), some (.val (.int 200)), none, none, none, none, none, none] = bnd (forLoop (.nm 4) bTurnA (rangeD 0 (ns.length : Int)) [some (.scr ns), some (.val (.int 200)), some (.own []), some (.val (.int 7)), none, none, none, none]) fun q => match q with
        | .nx e => (sSeq (sFor (itemsR1 (dVar 1)) (.nm 4) bTurnB) (sRet (dLst (dSlL (dVarL 2) oNone (oSome (dVar 1)))))) e
        | .ct e => ret (.ct e)
        | .bk e => ret (.bk e)
        | .rt d => ret (.rt d) := by
      unfold bDraws
      rw [e_Seq, e_AsgF, e_Disp, e_aNil, bnd_ret, if_pos (by decide), bnd_ret, bnd_ret]
      dsimp only
      rw [e_Seq, e_Asg, e_C, bnd_ret, e_bindNm]
      dsimp only
      rw [bnd_ret]
      dsimp only
      rw [e_Seq, e_For, e_itemsR1, e_LenS]
      simp only [e_getS, List.set_cons_succ, List.set_cons_zero, List.getElem?_cons_zero, lift_some_eq, bnd_ret]
      rw [if_pos hb, lift_some_eq, bnd_ret]
      try rfl
    rw [e0, bnd_of h1]
    dsimp only
    rw [e_Seq, e_For]
    have e1 : itemsR1 (dVar 1) [some (.scr ns), some (.val (.int 200)), some (.own (ws.map PyData.int)), some (.val (.int mixed)), x4, x5, x6, x7] = ret (rangeD 0 200) := by
      simp [big]
    rw [e1, bnd_ret, bnd_of h3]
    simp [ret_ap]
  rw [this]
end DL

/-! DL, part j: a draw's value; the law. -/
namespace DL
open PySem PySem.Spec PyProof.Rows L2
@[simp] theorem bnd_assoc {α β γ : Type} (m : OM α) (f : α → OM β) (g : β → OM γ) : bnd (bnd m f) g = bnd m fun a => bnd (f a) g := by
  funext n
  unfold bnd
  cases m n with
  | none => rfl
  | some p => rfl
/-- the n-th draw, below m -/
def nx (ws : List Int) (n : Nat) (m : Int) : Int := if n < ws.length then ws.getD n 0 % m else 0
theorem nx_rng {ws : List Int} (h : Dr ws) (n : Nat) {m : Int} (hm : 0 < m) : 0 ≤ nx ws n m ∧ nx ws n m < m ∧ nx ws n m < 997 := by
  unfold nx
  split
  · rename_i hn
    have hx : ws.getD n 0 ∈ ws := by
      rw [List.getD_eq_getElem?_getD, List.getElem?_eq_getElem hn]
      exact List.getElem_mem hn
    obtain ⟨h1, h2⟩ := h.rng _ hx
    have h3 := Int.emod_nonneg (ws.getD n 0) (show m ≠ 0 by omega)
    have h4 := Int.emod_lt_of_pos (ws.getD n 0) hm
    have h5 := Int.mul_ediv_add_emod (ws.getD n 0) m
    have h6 := Int.mul_nonneg (show (0 : Int) ≤ m by omega) (Int.ediv_nonneg h1 (show (0 : Int) ≤ m by omega))
    omega
  · omega
theorem fNext_eq {ws : List Int} (n : Nat) {m : Int} (hm : 0 < m) : fNext (.draws ws) [.int m] n = some (.int (nx ws n m), n + 1) := by
  have hN : startW 2 (.draws ws) [.int m] = [some (.wdr (.draws ws)), some (.val (.int m))] := rfl
  unfold fNext runW bNext
  rw [hN]
  have hi : sInc 0 [some (.wdr (.draws ws)), some (.val (.int m))] n = some (.nx [some (.wdr (.draws ws)), some (.val (.int m))], n + 1) := rfl
  have ha : dAt 0 [some (.wdr (.draws ws)), some (.val (.int m))] (n + 1) = some (.int ((n + 1 : Nat) : Int), n + 1) := rfl
  have hd : dDr 0 [some (.wdr (.draws ws)), some (.val (.int m))] = ret (.list (ws.map PyData.int)) := rfl
  rw [e_Seq, bnd_assoc, bnd_of hi]
  dsimp only
  rw [e_Seq, e_sIf, e_tOf, e_Op]
  simp only [bnd_assoc]
  rw [bnd_of ha]
  simp only [e_CallB, e_aCons, e_aNil, hd, bnd_ret, v_lenL, lift_some_eq, v_gt, List.length_map, bnd_assoc]
  unfold nx
  by_cases hn : n < ws.length
  · have h1 : ¬ (ws.length : Int) < ((n + 1 : Nat) : Int) := by omega
    rw [if_pos hn, decide_eq_false h1]
    simp only [Bool.false_eq_true, if_false, e_Pass, bnd_ret]
    have hx : atI (ws.map PyData.int) (n : Int) = some (.int (ws.getD n 0)) := by
      refine atI_nat ?_
      rw [List.getElem?_map, List.getD_eq_getElem?_getD, List.getElem?_eq_getElem hn]
      rfl
    simp only [e_Ret, e_Op, e_CallB, e_aCons, e_aNil, hd, bnd_ret, bnd_assoc]
    rw [bnd_of ha]
    simp [hx, hm, ret_ap]
  · have h1 : (ws.length : Int) < ((n + 1 : Nat) : Int) := by omega
    rw [if_neg hn, decide_eq_true h1]
    simp [ret_ap]
theorem bnd_next {α : Type} {ws : List Int} {n : Nat} {m : Int} {f : PyData → OM α} (hm : 0 < m) : bnd (fNext (.draws ws) [.int m]) f n = f (.int (nx ws n m)) (n + 1) := bnd_of (fNext_eq n hm)

/-! ### the law -/
/-- _law_holds answers True, whatever the draws -/
def HoldOk (g : Tag → List PyData → OM PyData) : Prop := ∀ ws, Dr ws → ∀ n, ∃ n', g (.draws ws) [] n = some (.bool true, n')
theorem bLaw_ok {turns : Int} (ht : 0 ≤ turns ∧ turns ≤ 1000) {g : Tag → List PyData → OM PyData} (h : HoldOk g) {ws : List Int} (hd : Dr ws) (ns : List Int) : ∃ n', bLaw turns g [some (.scr ns), some (.wdr (.draws ws)), none] 0 = some (.rt (.bool true), n') := by
  obtain ⟨e', n', h1, h2⟩ := forLoop_invN (p := .nm 2) (n := 0) (s := sIf (tNot (tOf (dCallW g 1 aNil))) (sRet (dC (.bool false))) sPass) (ds := rangeD 0 turns) (env := [some (.scr ns), some (.wdr (.draws ws)), none])
    (fun e => ∃ x, e = [some (.scr ns), some (.wdr (.draws ws)), x]) ⟨none, rfl⟩ (fun d e n hm ⟨x, he⟩ => by
      subst he
      obtain ⟨n', hn⟩ := h ws hd n
      refine ⟨_, _, n', rfl, ?_, some (.val d), rfl⟩
      rw [e_sIf, e_tNot, e_tOf, e_CallW, e_aNil, bnd_ret]
      have hw : getW (List.set [some (.scr ns), some (.wdr (.draws ws)), x] 2 (some (.val d))) 1 = some (.draws ws) := rfl
      rw [hw]
      simp only [bnd_assoc]
      rw [bnd_of hn]
      rfl)
  obtain ⟨x, rfl⟩ := h2
  have hb : -big ≤ turns ∧ turns ≤ big := by
    unfold big
    omega
  refine ⟨n', ?_⟩
  unfold bLaw
  rw [e_Seq, e_For, e_itemsR1, e_C, bnd_ret]
  dsimp only
  rw [if_pos hb, lift_some_eq, bnd_ret, bnd_of h1]
  rfl
/-- all but the table -/
noncomputable def outT (t : Option (Addr × Str)) (H : Hp) : Hp := fun b => @ite _ (∃ T, t = some T ∧ T.1 = b) (Classical.propDecidable _) none (H b)
/-- the table, and the empty dict at p -/
noncomputable def inT (t : Option (Addr × Str)) (p : Addr) (H : Hp) : Hp := upd (fun b => @ite _ (∃ T, t = some T ∧ T.1 = b) (Classical.propDecidable _) (H b) none) p (.dK [])
theorem outT_some {t : Option (Addr × Str)} {H : Hp} {b : Addr} {o : HO} (h : outT t H b = some o) : H b = some o ∧ ∀ T, t = some T → T.1 ≠ b := by
  unfold outT at h
  by_cases c : ∃ T, t = some T ∧ T.1 = b
  · rw [if_pos c] at h
    cases h
  · rw [if_neg c] at h
    exact ⟨h, fun T e z => c ⟨T, e, z⟩⟩
theorem outT_of {t : Option (Addr × Str)} {H : Hp} {b : Addr} {o : HO} (h : H b = some o) (n : ∀ T, t = some T → T.1 ≠ b) : outT t H b = some o := by
  unfold outT
  rw [if_neg fun ⟨T, e, z⟩ => n T e z]
  exact h
theorem inT_some {t : Option (Addr × Str)} {H : Hp} {p b : Addr} {o : HO} (h : inT t p H b = some o) : (b = p ∧ o = .dK []) ∨ ∃ T, t = some T ∧ T.1 = b ∧ H b = some o := by
  unfold inT at h
  by_cases c : b = p
  · subst c
    rw [upd_same] at h
    exact .inl ⟨rfl, (Option.some.inj h).symm⟩
  · rw [upd_ne c] at h
    by_cases d : ∃ T, t = some T ∧ T.1 = b
    · rw [if_pos d] at h
      obtain ⟨T, e, z⟩ := d
      exact .inr ⟨T, e, z, h⟩
    · rw [if_neg d] at h
      cases h
theorem inT_p {t : Option (Addr × Str)} {H : Hp} {p : Addr} : inT t p H p = some (.dK []) := upd_same
theorem inT_T {t : Option (Addr × Str)} {H : Hp} {p : Addr} {T : Addr × Str} {o : HO} (hp : H p = none) (e : t = some T) (h : H T.1 = some o) : inT t p H T.1 = some o := by
  unfold inT
  rw [upd_ne (ne_of_none h hp)]
  rw [if_pos ⟨T, e, rfl⟩]
  exact h
theorem outT_sq {K : PySem.W.Frag} {t : Option (Addr × Str)} {H : Hp} {a : Addr} {xs : List V} (hT : ∀ T, t = some T → H T.1 = some (.tbl #[])) (h : SqL K H a xs) : SqL K (outT t H) a xs := by
  rcases h with (h | ⟨o, h⟩) | h
  · exact .inl (.inl (outT_of h fun T e z => by
      rw [← z, hT T e] at h
      cases h))
  · exact .inl (.inr ⟨o, outT_of h fun T e z => by
      rw [← z, hT T e] at h
      cases h⟩)
  · exact .inr h
theorem law_rd {K : PySem.W.Frag} {turns : Int} (ht : 0 ≤ turns ∧ turns ≤ 1000) {g : Tag → List PyData → OM PyData} (h : HoldOk g) {vs : List V} {H : Hp} {Q : VK} {E : XK} {nx0 : L2.St → Hp → Prop} {t : Option (Addr × Str)} (htk : t = some (tabK K)) (sp : SpLaw K t vs H Q E) :
    tSeq (tAsg (tDisp [(tC (.str "draws"), rdE K (dCallD fDraws 0 (aCons (dC (.int 200)) aNil))), (tC (.str "at"), tC (.int 0))]) (gName 1)) (rdS K (bLaw turns g)) { nx := nx0, rt := Q } (L2.start ["script", "w", "turn"] vs) H := by
  obtain ⟨a, ns, rfl, hS, hl, hT, q⟩ := sp
  obtain ⟨ws, hf, hd⟩ := draws_ok ns hl
  obtain ⟨n', hb⟩ := bLaw_ok ht h hd ns
  refine fun p hp => ?_
  have rl : Rl K (outT t H) (inT t p H) none [some (.ref a), none, none] (upd H p (.dK [])) [some (.scr ns), none, none] 0 := by
    refine ⟨⟨fun b o e => ?_, fun b o e => ?_, fun b o e => ?_⟩, trivial, fun i e he => ?_, fun i j e e' v hij h1 h2 m1 m2 => ?_, rfl⟩
    · exact same_new hp _ _ (outT_some e).1
    · rcases inT_some e with ⟨rfl, rfl⟩ | ⟨T, e1, rfl, h⟩
      · exact upd_same
      · exact same_new hp _ _ h
    · rcases inT_some e with ⟨rfl, _⟩ | ⟨T, e1, rfl, h⟩
      · cases z : outT t H b with
        | none => rfl
        | some o =>
          have := (outT_some z).1
          rw [hp] at this
          cases this
      · cases z : outT t H T.1 with
        | none => rfl
        | some o => exact absurd rfl ((outT_some z).2 T e1)
    · match i, he with
      | 0, he =>
        cases he
        exact ⟨_, rfl, a, rfl, outT_sq hT hS⟩
      | 1, he => cases he
      | 2, he => cases he
      | n + 3, he => cases he
    · match i, h1 with
      | 0, h1 =>
        cases h1
        cases m1
      | 1, h1 => cases h1
      | 2, h1 => cases h1
      | n + 3, h1 => cases h1
  refine ⟨outT t H, _, none, _, 0, .list (ws.map PyData.int), 0, rl, ?_, fun v F1 H1 g1 rl1 p1 => ?_⟩
  · show dCallD fDraws 0 (aCons (dC (.int 200)) aNil) [some (.scr ns), none, none] 0 = _
    unfold dCallD
    rw [e_aCons, e_C, bnd_ret, e_aNil, bnd_ret, bnd_ret]
    have : getS [some (.scr ns), none, none] 0 = some ns := rfl
    rw [this]
    dsimp only
    rw [hf]
    rfl
  obtain ⟨l, xs, rfl, hl1, r1⟩ := p1.lst_inv
  have hx := r1.ints_inv
  subst hx
  have hp1 : H1 p = some (.dK []) := rl1.zn.bb p _ inT_p
  have fp1 : F1 p = none := rl1.zn.dj p _ inT_p
  refine ⟨hp1, [(.inr ("draws" : Str), .ref l), (.inr ("at" : Str), .int 0)], rfl, by show 2 ≤ 15; decide, ?_⟩
  have hm : mergeK [] [(.inr ("draws" : Str), V.ref l), (.inr ("at" : Str), V.int 0)] = [(.inr ("draws" : Str), V.ref l), (.inr ("at" : Str), V.int ((0 : Nat) : Int))] := rfl
  rw [hm]
  show rdS K (bLaw turns g) _ _ _
  refine ⟨F1, fun _ => none, some (.dr p l ws t), [some (.scr ns), some (.wdr (.draws ws)), none], 0, _, n', ?_, hb, fun v F' H' _ _ _ pv => ?_⟩
  · refine ⟨⟨same_mut rl1.zn.ff fp1, fun _ _ e => (nomatch e), fun _ _ e => (nomatch e)⟩, ⟨⟨upd_same, fun T e => ?_⟩, hl1, fun x c => ⟨?_, rfl⟩⟩, fun i e he => ?_, fun i j e e' v hij h1 h2 m1 m2 => ?_, rfl⟩
    · have h1 : H1 T.1 = some (.tbl #[]) := rl1.zn.bb _ _ (inT_T hp e (hT T e))
      refine LamX.TabS.nil ?_
      rw [upd_ne (show T.1 ≠ p from fun z => by
        rw [z, hp1] at h1
        cases h1)]
      exact h1
    · rcases c with rfl | ⟨T, e, rfl⟩
      · exact fp1
      · exact rl1.zn.dj _ _ (inT_T hp e (hT T e))
    · match i, he with
      | 0, he =>
        cases he
        exact ⟨_, rfl, a, rfl, g1.f.seq (outT_sq hT hS)⟩
      | 1, he =>
        cases he
        exact ⟨_, rfl, .dr p l ws t, rfl, rfl, rfl, htk⟩
      | 2, he => cases he
      | n + 3, he => cases he
    · have only : ∀ (i : Nat) (e : En), ([some (.scr ns), some (.wdr (.draws ws)), none] : Env)[i]? = some (some e) → e.mut = true → i = 1 := fun i e he hm => by
        match i, he with
        | 0, he =>
          cases he
          cases hm
        | 1, he => rfl
        | 2, he => cases he
        | n + 3, he => cases he
      exact absurd ((only i e h1 m1).trans (only j e' h2 m2).symm) hij
  · rw [pv.bl_inv]
    exact q H'
end DL
namespace DL
open PySem PySem.Spec PyProof.Rows L2
/-! ### constants of the written part -/
theorem kt_tup {K : PySem.W.Frag} {F : Hp} {c : Addr} {od : Option Addr} {its : Array Value} {n : Nat} {sl : Array (Option Value)} {xs : List V} {ds : List PyData} (l : K.lookup c = some ⟨.type "tuple", od, .seq its n, sl⟩) (hz : its.size ≤ 1000) (hv : Vals xs its.toList) (r : RpAll K F xs ds) : Rp K F (.ref c) (.tuple ds) :=
  .tup (.inr ⟨_, its, n, l, rfl, rfl, Nat.le_trans hz (by decide), hv⟩) r
end DL
namespace DL
open PySem PySem.Spec PyProof.Rows L2
/-- a def of the module that may be called by its name -/
def Cal (P : Program) (w : World) (K : PySem.W.Frag) (mg : Str → Option Value) (base : Heap) (k : Nat) (x : Str) (sp : Sp) : Prop :=
  ∃ (f : Addr) (fd : FuncData) (ps : List Str), FnOk P w K mg base CX0 k f fd ps sp ∧ mg x = some (.ref f) ∧ PySem.W.keepIn K (.ref f) = true ∧ Binds K fd ps []
theorem pe_cal {X : Cx} {k j : Nat} {x : Str} {sp : Sp} {p pos : Pos} {e : Expr} {es : List Expr} {t : TA} (c : Cal X.prog X.w X.K X.mg X.base k x sp) (hr : Room j X.A) (hk : k ≤ j) (hg : Gl X x) (ha : PA X (e :: es) t)
    (he : starEach (e :: es) X.env = (false, eval e X.env) :: starEach es X.env := by rfl) (hpl : ((backTo pos (starEach es X.env)).any fun x => x.1) = false := by rfl) (hd : (x == ("__debug__" : Str)) = false := by decide) : PE X (.Call (.Name x p) (e :: es) [] pos) (tCall sp [] E0 t) := by
  obtain ⟨f, fd, ps, h1, h2, h3, h4⟩ := c
  exact pe_call h1 (hr.mono hk) hg h2 h3 h4 .nil pass0 ha hd he hpl
end DL

/-! DL, part k: comprehensions and loops as maps and folds. -/
namespace DL
open PySem PySem.Spec PyProof.Rows L2
theorem lcLoop_pure {p : Pt} {t : TM} {m : DM} {env : Env} (P : PyData → Bool) (g : PyData → PyData) : ∀ {ds : List PyData}, (∀ d ∈ ds, ∃ e, bindP p d env = some e ∧ t e = ret (P d) ∧ (P d = true → m e = ret (g d))) → lcLoop p t m env ds = ret ((ds.filter P).map g)
  | [], _ => rfl
  | d :: ds, h => by
    obtain ⟨e, h1, h2, h3⟩ := h d List.mem_cons_self
    have ih := lcLoop_pure P g (ds := ds) fun d hd => h d (List.mem_cons_of_mem _ hd)
    simp only [lcLoop, h1, h2, bnd_ret, ih]
    cases hp : P d with
    | true =>
      rw [h3 hp]
      simp [List.filter_cons, hp]
    | false => simp [List.filter_cons, hp]
/-- over lo, lo + 1, .. -/
theorem lcLoop_range {p : Pt} {t : TM} {m : DM} {env : Env} {lo hi : Int} (P : Int → Bool) (g : Int → PyData) (h : ∀ y : Int, lo ≤ y → y < hi → ∃ e, bindP p (.int y) env = some e ∧ t e = ret (P y) ∧ (P y = true → m e = ret (g y))) :
    lcLoop p t m env (rangeD lo hi) = ret ((((List.range (hi - lo).toNat).map fun (i : Nat) => lo + (i : Int)).filter P).map g) := by
  have e : rangeD lo hi = ((List.range (hi - lo).toNat).map fun (i : Nat) => lo + (i : Int)).map PyData.int := by
    unfold rangeD
    rw [List.map_map]
    rfl
  rw [e]
  have key : ∀ ys : List Int, (∀ y ∈ ys, lo ≤ y ∧ y < hi) → lcLoop p t m env (ys.map PyData.int) = ret ((ys.filter P).map g) := by
    intro ys
    induction ys with
    | nil => intro _; rfl
    | cons y ys ih =>
      intro hy
      have h0 := hy y List.mem_cons_self
      obtain ⟨e, h1, h2, h3⟩ := h y h0.1 h0.2
      have ih := ih fun z hz => hy z (List.mem_cons_of_mem _ hz)
      simp only [List.map_cons, lcLoop, h1, h2, bnd_ret, ih]
      cases hp : P y with
      | true =>
        rw [h3 hp]
        simp [List.filter_cons, hp]
      | false => simp [List.filter_cons, hp]
  refine key _ fun y hy => ?_
  rw [List.mem_map] at hy
  obtain ⟨i, hi, rfl⟩ := hy
  rw [List.mem_range] at hi
  omega
/-- a statement about small numbers, by all of them -/
theorem small_all {k : Nat} {P : Int → Prop} (h : ∀ i : Nat, i < k → P (i : Int)) {r : Int} (h0 : 0 ≤ r) (h1 : r < (k : Int)) : P r := by
  have e : r = (r.toNat : Int) := by omega
  rw [e]
  exact h _ (by omega)
end DL

/-! DL, part l: more values. -/
namespace DL
open PySem PySem.Spec PyProof.Rows L2
@[simp] theorem intsOf_mp (ns : List Int) : intsOf (ns.map PyData.int) = some ns := intsOf_map ns
@[simp] theorem boolsOf_mp (ns : List Bool) : boolsOf (ns.map PyData.bool) = some ns := boolsOf_map ns
section
variable (l m : List Int) (bs : List Bool) (a b c d e f v : Int) (ds : List PyData)
@[simp] theorem seqOf_l : seqOf (.list ds) = some ds := (rfl)
@[simp] theorem seqOf_t : seqOf (.tuple ds) = some ds := (rfl)
@[simp] theorem v_sumL : sumD [.list ds] = match intsOf ds with
  | some ns => some (.int ns.sum)
  | none => none := (rfl)
@[simp] theorem v_sumT : sumD [.tuple ds] = match intsOf ds with
  | some ns => some (.int ns.sum)
  | none => none := (rfl)
@[simp] theorem v_allL : allD [.list ds] = match boolsOf ds with
  | some ns => some (.bool (ns.all id))
  | none => none := (rfl)
@[simp] theorem v_anyL : anyD [.list ds] = match boolsOf ds with
  | some ns => some (.bool (ns.any id))
  | none => none := (rfl)
@[simp] theorem v_max1L : max1D [.list ds] = match intsOf ds with
  | some (x :: r) => some (.int (maxL (x :: r)))
  | _ => none := (rfl)
@[simp] theorem v_min1L : min1D [.list ds] = match intsOf ds with
  | some (x :: r) => some (.int (minL (x :: r)))
  | _ => none := (rfl)
@[simp] theorem v_tupL : tupOfD [.list ds] = some (.tuple ds) := (rfl)
@[simp] theorem v_tupT : tupOfD [.tuple ds] = some (.tuple ds) := (rfl)
@[simp] theorem v_inT : inD (.int v) (.tuple ds) = if ds.all flat = true then some (.bool (ds.any fun z => PyData.eqv z (.int v))) else none := (rfl)
@[simp] theorem v_inL : inD (.int v) (.list ds) = if ds.all flat = true then some (.bool (ds.any fun z => PyData.eqv z (.int v))) else none := (rfl)
@[simp] theorem v_notInT : notInD (.int v) (.tuple ds) = if ds.all flat = true then some (.bool (!ds.any fun z => PyData.eqv z (.int v))) else none := (rfl)
@[simp] theorem v_notInL : notInD (.int v) (.list ds) = if ds.all flat = true then some (.bool (!ds.any fun z => PyData.eqv z (.int v))) else none := (rfl)
@[simp] theorem flat_int : flat (.int v) = true := (rfl)
@[simp] theorem eqv_int : PyData.eqv (.int a) (.int b) = decide (a = b) := by
  have : PyData.eqv (.int a) (.int b) = (a == b) := (rfl)
  rw [this, Bool.beq_eq_decide_eq]
@[simp] theorem isi_int : isiD "int" (.int v) = some (.bool true) := (rfl)
@[simp] theorem isi_bool : isiD "bool" (.int v) = some (.bool false) := (rfl)
@[simp] theorem isi_tup : isiD "tuple" (.tuple ds) = some (.bool true) := (rfl)
theorem eqA2 : eqD (.tuple [.int a, .int b]) (.tuple [.int c, .int d]) = some (.bool ((a == c) && ((b == d) && true))) := (rfl)
theorem neA2 : neD (.tuple [.int a, .int b]) (.tuple [.int c, .int d]) = some (.bool !((a == c) && ((b == d) && true))) := (rfl)
theorem eqA3 : eqD (.tuple [.int a, .int b, .int e]) (.tuple [.int c, .int d, .int f]) = some (.bool ((a == c) && ((b == d) && ((e == f) && true)))) := (rfl)
theorem neA3 : neD (.tuple [.int a, .int b, .int e]) (.tuple [.int c, .int d, .int f]) = some (.bool !((a == c) && ((b == d) && ((e == f) && true)))) := (rfl)
@[simp] theorem v_eq2 : eqD (.tuple [.int a, .int b]) (.tuple [.int c, .int d]) = some (.bool (decide (a = c ∧ b = d))) := by
  rw [eqA2]
  simp only [Bool.beq_eq_decide_eq, Bool.and_true, Bool.decide_and]
@[simp] theorem v_ne2 : neD (.tuple [.int a, .int b]) (.tuple [.int c, .int d]) = some (.bool !(decide (a = c ∧ b = d))) := by
  rw [neA2]
  simp only [Bool.beq_eq_decide_eq, Bool.and_true, Bool.decide_and]
@[simp] theorem v_eq3 : eqD (.tuple [.int a, .int b, .int e]) (.tuple [.int c, .int d, .int f]) = some (.bool (decide (a = c ∧ b = d ∧ e = f))) := by
  rw [eqA3]
  simp only [Bool.beq_eq_decide_eq, Bool.and_true, Bool.decide_and]
@[simp] theorem v_ne3 : neD (.tuple [.int a, .int b, .int e]) (.tuple [.int c, .int d, .int f]) = some (.bool !(decide (a = c ∧ b = d ∧ e = f))) := by
  rw [neA3]
  simp only [Bool.beq_eq_decide_eq, Bool.and_true, Bool.decide_and]
@[simp] theorem atI_0 (x : PyData) : atI (x :: ds) 0 = some x := atI_nat (j := 0) rfl
@[simp] theorem atI_1 (x y : PyData) : atI (x :: y :: ds) 1 = some y := atI_nat (j := 1) rfl
@[simp] theorem atI_2 (x y z : PyData) : atI (x :: y :: z :: ds) 2 = some z := atI_nat (j := 2) rfl
@[simp] theorem atI_3 (x y z u : PyData) : atI (x :: y :: z :: u :: ds) 3 = some u := atI_nat (j := 3) rfl
end
theorem canLayI : ∀ l : List Int, PyData.canLayAll0 (l.map PyData.int) = true
  | [] => by simp only [List.map_nil, PyData.canLayAll0]
  | x :: l => by simp only [List.map_cons, PyData.canLayAll0, PyData.canLay0, canLayI l, Bool.and_self]
theorem depthI : ∀ l : List Int, PyData.depthAll (l.map PyData.int) ≤ 1
  | [] => by simp [PyData.depthAll]
  | x :: l => by
    have := depthI l
    simp only [List.map_cons, PyData.depthAll, PyData.depth]
    omega
theorem eqvI : ∀ l m : List Int, PyData.eqvAll (l.map PyData.int) (m.map PyData.int) = decide (l = m)
  | [], [] => by simp [PyData.eqvAll]
  | [], y :: m => by simp [PyData.eqvAll]
  | x :: l, [] => by simp [PyData.eqvAll]
  | x :: l, y :: m => by
    simp only [List.map_cons, PyData.eqvAll, eqvI l m, eqv_int, List.cons.injEq, Bool.decide_and]
theorem shapedL (l : List Int) : SeqAt.shaped (.list (l.map PyData.int)) = true := by
  have := depthI l
  unfold SeqAt.shaped
  rw [Bool.and_eq_true]
  refine ⟨by simp only [PyData.canLay0, canLayI], decide_eq_true ?_⟩
  simp only [PyData.depth]
  exact Nat.le_trans (Nat.succ_le_succ this) (by decide)
theorem shapedT (l : List Int) : SeqAt.shaped (.tuple (l.map PyData.int)) = true := by
  have := depthI l
  unfold SeqAt.shaped
  rw [Bool.and_eq_true]
  refine ⟨by simp only [PyData.canLay0, canLayI], decide_eq_true ?_⟩
  simp only [PyData.depth]
  exact Nat.le_trans (Nat.succ_le_succ this) (by decide)
theorem v_eqLL (l m : List Int) : eqD (.list (l.map PyData.int)) (.list (m.map PyData.int)) = some (.bool (decide (l = m))) := by
  unfold eqD
  rw [shapedL, shapedL, PyData.eqv, eqvI]
  rfl
theorem v_neLL (l m : List Int) : neD (.list (l.map PyData.int)) (.list (m.map PyData.int)) = some (.bool (!decide (l = m))) := by
  unfold neD
  rw [shapedL, shapedL, PyData.eqv, eqvI]
  rfl
theorem v_eqTT (l m : List Int) : eqD (.tuple (l.map PyData.int)) (.tuple (m.map PyData.int)) = some (.bool (decide (l = m))) := by
  unfold eqD
  rw [shapedT, shapedT, PyData.eqv, eqvI]
  rfl
theorem v_neTT (l m : List Int) : neD (.tuple (l.map PyData.int)) (.tuple (m.map PyData.int)) = some (.bool (!decide (l = m))) := by
  unfold neD
  rw [shapedT, shapedT, PyData.eqv, eqvI]
  rfl
theorem atI_eq {α : Type} (xs : List α) (i : Int) : atI xs i = if 0 ≤ i then xs[i.toNat]? else if -(xs.length : Int) ≤ i then xs[(i + (xs.length : Int)).toNat]? else none := by
  unfold atI ixN
  by_cases h : 0 ≤ i
  · rw [if_pos h, if_pos h]
    by_cases h2 : i < xs.length
    · rw [if_pos h2]
      rfl
    · rw [if_neg h2, List.getElem?_eq_none (by omega)]
      rfl
  · rw [if_neg h, if_neg h]
    by_cases h2 : -(xs.length : Int) ≤ i
    · rw [if_pos h2, if_pos h2]
      rfl
    · rw [if_neg h2, if_neg h2]
      rfl
/-- x is True, x is False -/
def isBD (x y : PyData) : Option PyData := match x with
  | .bool a => match y with
    | .bool b => some (.bool (decide (a = b)))
    | _ => none
  | _ => none
def isntBD (x y : PyData) : Option PyData := match x with
  | .bool a => match y with
    | .bool b => some (.bool (!decide (a = b)))
    | _ => none
  | _ => none
theorem Lp.bool_inv {K : PySem.W.Frag} {F H : Hp} {v : V} {b : Bool} (h : Lp K F H v (.bool b)) : v = .bl b := by
  rcases h with h | ⟨a, xs, ds, e, _⟩
  · cases h
    rfl
  · cases e
theorem r_isB {K : PySem.W.Frag} : R2D K (fun x y H Q => ∃ a b, x = .bl a ∧ y = .bl b ∧ Q (.bl (decide (a = b))) H) isBD := fun F H x y d1 d2 d Q s p1 p2 e k => by
  match d1, d2, e, p1, p2 with
  | .bool a, .bool b, e, p1, p2 =>
    cases e
    exact ⟨a, b, p1.bool_inv, p2.bool_inv, k _ F H (.refl s) (.bl _)⟩
theorem r_isntB {K : PySem.W.Frag} : R2D K (fun x y H Q => ∃ a b, x = .bl a ∧ y = .bl b ∧ Q (.bl (!decide (a = b))) H) isntBD := fun F H x y d1 d2 d Q s p1 p2 e k => by
  match d1, d2, e, p1, p2 with
  | .bool a, .bool b, e, p1, p2 =>
    cases e
    exact ⟨a, b, p1.bool_inv, p2.bool_inv, k _ F H (.refl s) (.bl _)⟩
@[simp] theorem v_isB (a b : Bool) : isBD (.bool a) (.bool b) = some (.bool (decide (a = b))) := (rfl)
@[simp] theorem v_isntB (a b : Bool) : isntBD (.bool a) (.bool b) = some (.bool (!decide (a = b))) := (rfl)
end DL

/-! DL, part m: sets made of lists of ints. -/
namespace L2
open PySem PySem.Spec PyProof.Rows
section
variable {P : Program} {w : World} {A : Around} {E : Value → Shared → Prop} {s : Shared}
abbrev setObj0 (w : World) : Obj := { cls := .type "set", dict := none, data := .set #[] 0 (.fresh 0 0 (!w.params.followText "set-order")) }
/-- set.__init__ of a list of ints, on a new set -/
theorem init_set_lstI {l : Addr} {items : Array Value} (ns : List Int) {R : Result → Shared → Prop} (hh : A.handled = none) (hl : s.heap.IsList l items) (hit : IntsAre items.toList ns) (hb : ns.length + 1 < scanBound) {S : Addr} (hS : s.heap.get? S = some (setObj0 w)) (hlS : l ≠ S)
    (h : ∀ (h' : Heap) (tk c : Nat), SetR w h' S (fun j => decide (j ∈ ns)) c → c ≤ ns.length → (∀ b o, b ≠ S → s.heap.get? b = some o → h'.get? b = some o) → R (.ok (.ret .none)) { s with heap := h', toks := tk })
    (hT : Shared.TypeIs s (.ref S) "set") :
    codeAny (model P w) A (.call (.builtin "set.__init__") ⟨[.ref S, .ref l], []⟩) R s := by
  have hisz : items.size = ns.length := by
    have q := IntsAre.length hit
    rw [Array.length_toList] at q
    exact q
  refine codeAny_mono (codeAny_call_builtin (R := R) F.called_set.init.plain F.entry_set_init (check_set_init_1 hT ?_)) fun _ _ hr => hr
  obtain ⟨ol, hol, hcl, nl, hdl⟩ := hl
  obtain ⟨ocls, odict, odata, oslots⟩ := ol
  simp only at hcl hdl
  subst hcl; subst hdl
  have hsls := F.sub_list_set
  have hslf := F.sub_list_frozenset
  have hne : (Value.type "list" == Value.type "dict") = false := by decide
  have hl1 : s.heap.IsList l items := ⟨_, hol, rfl, nl, rfl⟩
  unfold Builtin.«set.__init__» noKeywords Builtin.Frozenset.updateFrom
  generalize hPI : pyIter = PI
  wp_walk
  subst hPI
  refine wpAny_pyIter_list hl1 (wpAny_bind (wpAny_runValue ?_))
  have hlt : l < s.heap.objs.size := Heap.lt_size hol
  have hSt : S < s.heap.objs.size := Heap.lt_size hS
  have hh3 : A.in1.in1.handled = none := by simp [hh]
  have hval : ∀ (i : Nat) (v : Value), items[i]? = some v → ∃ k t, ns[i]? = some k ∧ v = .int k t := fun i v hv => by
    have hi : i < ns.length := by rw [← hisz]; exact (Array.getElem?_eq_some_iff.mp hv).1
    obtain ⟨t, e⟩ := PyProof.Rows.IntsAre.int_at hit i v (by rw [Array.getElem?_toList]; exact hv)
    refine ⟨ns[i], t, List.getElem?_eq_getElem hi, ?_⟩
    rw [e, List.getD_eq_getElem?_getD, List.getElem?_eq_getElem hi] <;> rfl
  have hSf : S ∉ [s.heap.objs.size, l] := by
    intro hm
    rcases List.mem_cons.mp hm with e | hm
    · exact Nat.ne_of_lt hSt e
    · exact hlS (List.mem_singleton.mp hm).symm
  refine set_update_ints ((Walks.list hh3 _ l (Nat.ne_of_lt hlt) items).toS) S hSf ns hisz hb hval (items.size - 0) 0 _ (by omega) (Nat.zero_le _)
    ⟨⟨_, Heap.get?_push_size _ rfl, rfl, rfl⟩, hl1.push _⟩ ⟨0, Nat.le_refl 0, setR_new_at (Heap.get?_push_of_some _ hS)⟩ ?_
  intro s' c' hm hc' hS'
  obtain ⟨h', g2, d', tk', os'⟩ := s'
  have eg : g2 = s.gens := hm.gens
  have ed : d' = s.drawn := hm.drawn
  have eo : os' = s.os := hm.os
  subst eg; subst ed; subst eo
  show wpAny _ _ _ _ _ _
  refine wpAny_pure ?_
  show wpAny _ _ (ret Value.none) _ _ _
  rw [hisz] at hc'
  refine wpAny_pure ?_
  refine h h' tk' c' hS' hc' fun b o hb e => ?_
  have hbs : b ≠ s.heap.objs.size := Nat.ne_of_lt (Heap.lt_size e)
  exact hm.heap b o (fun hx => by
    rcases List.mem_cons.mp hx with e | hx
    · exact hb e
    · exact hbs (List.mem_singleton.mp hx)) (Heap.get?_push_of_some _ e)
theorem call_set_lstI {l : Addr} {items : Array Value} (ns : List Int) {Q : Value → Shared → Prop} (hh : A.handled = none) (hl : s.heap.IsList l items) (hit : IntsAre items.toList ns) (hb : ns.length + 1 < scanBound)
    (h : ∀ (h' : Heap) (tk c : Nat), SetR w h' s.heap.objs.size (fun j => decide (j ∈ ns)) c → c ≤ ns.length → (∀ b o, s.heap.get? b = some o → h'.get? b = some o) → Q (.ref s.heap.objs.size) { s with heap := h', toks := tk }) :
    wpAny (model P w) A (call (.type "set") [.ref l]) Q E s := by
  obtain ⟨c, tl, hmro⟩ := F.called_set.mro
  have hmade := F.called_set.made
  have hsub := F.called_set.sub
  refine wpAny_call (codeAny_of_tree ?_)
  show wpAny _ _ (callAny (.type "set") _) _ _ _
  refine wpAny_pure ⟨Code.quiet_builtin _ (by decide +kernel), codeAny_builtin F.entry_type_call ?_⟩
  rw [Around.under_plain (weight_type_call_type "set" [.ref l] []) rfl]
  have h1 := F.called_set.notType
  have h2 := F.called_set.canCreate
  have hct := F.typeCall_set_1 (.ref l)
  repeat (any_goals (first | assumption | wp_step))
  refine codeAny_mono (code_set_led1 (.ref l) (E := E) (Q₁ := fun obj s₁ => obj = .ref s.heap.objs.size ∧ s₁ = { s with heap := s.heap.push (setObj0 w) }) ⟨rfl, rfl⟩) fun r s₁ hr => ?_
  cases r with
  | error e => exact hr
  | ok fl =>
    cases fl with
    | ret obj =>
      obtain ⟨rfl, rfl⟩ := hr
      have hS : (s.heap.push (setObj0 w)).get? s.heap.objs.size = some (setObj0 w) := Heap.get?_push_size _ rfl
      have hT : Shared.TypeIs { s with heap := s.heap.push (setObj0 w) } (.ref s.heap.objs.size) "set" := ⟨_, hS, rfl⟩
      have hli := F.called_set.init.lookup
      have hbi := F.called_set.init.bind (.ref s.heap.objs.size)
      have hlt : l < s.heap.objs.size := by
        obtain ⟨ol, hol, _⟩ := hl
        exact Heap.lt_size hol
      repeat (any_goals (first | assumption | wp_step))
      refine codeAny_mono (init_set_lstI (s := { s with heap := s.heap.push (setObj0 w) }) (R := wants (fun r s₂ => r = .none ∧ ∃ h' tk c, s₂ = { s with heap := h', toks := tk } ∧ SetR w h' s.heap.objs.size (fun j => decide (j ∈ ns)) c ∧ c ≤ ns.length ∧
          (∀ b o, s.heap.get? b = some o → h'.get? b = some o)) E) ns (by simp [hh]) (hl.push _) hit hb hS (Nat.ne_of_lt hlt) (fun h' tk c a1 a2 a3 => ?_) hT) fun r₂ s₂ hr₂ => ?_
      · exact ⟨rfl, h', tk, c, rfl, a1, a2, fun b o e => a3 b o (Nat.ne_of_lt (Heap.lt_size e)) (Heap.get?_push_of_some _ e)⟩
      · cases r₂ with
        | error e => exact hr₂
        | ok fl₂ =>
          cases fl₂ with
          | ret r =>
            obtain ⟨rfl, h', tk, c', rfl, hS', hc', hk'⟩ := hr₂
            repeat (any_goals (first | assumption | wp_step))
            exact h _ _ _ hS' hc' hk'
          | _ => exact hr₂.elim
    | _ => exact hr.elim
end
section
variable {X : Cx}
/-- set(xs), xs a list of ints -/
def rSetLI (K : PySem.W.Frag) (w : World) : List V → Hp → VK → Prop := fun xs H Q => ∃ (l : Addr) (ns : List Int), xs = [V.ref l] ∧ SqL K H l (ns.map V.int) ∧ ns.length ≤ 4000 ∧ ∀ a c, H a = none → c ≤ ns.length → Q (.ref a) (upd H a (SetO w a (fun j => decide (j ∈ ns)) c))
theorem cr_setLI (hc : X.calm = true) : CallR X (.type "set") (rSetLI X.K X.w) := by
  intro pins s σ H xs us Q I r h
  obtain ⟨l, ns, rfl, hl, hz, q⟩ := h
  rw [Vals.ref1 r]
  obtain ⟨its, rv, pl, _⟩ := I.list hl
  have hn : H s.heap.objs.size = none := I.hok.fresh (Nat.le_refl _)
  refine call_set_lstI ns (I.ok.hd hc) pl.isList (by simpa using rv.ints) (by unfold scanBound; omega) fun h' tk c R hcn k => ?_
  exact ⟨.ref s.heap.objs.size, upd H s.heap.objs.size (SetO X.w s.heap.objs.size (fun j => decide (j ∈ ns)) c), I.laid (t' := tk) k (Nat.le_refl _) (setO_new R), rfl, q _ c hn hcn⟩
/-- len(found), a set of ints: as many as a list of its members without twins -/
def rLenSetO (w : World) : List V → Hp → VK → Prop := fun xs H Q => ∃ (a : Addr) (S : Int → Bool) (n : Nat), xs = [V.ref a] ∧ H a = some (SetO w a S n) ∧ ∀ ns : List Int, ns.Nodup → (∀ k, k ∈ ns ↔ S k = true) → Q (.int ns.length) H
theorem cr_lenSetO : CallR X (.builtin "len") (rLenSetO X.w) := by
  intro pins s σ H xs us Q I r h
  obtain ⟨a, S, n, rfl, ha, q⟩ := h
  rw [Vals.ref1 r]
  obtain ⟨o, es, ep, t, ho, hex, hd, _, nd, hm, hb, hf, _⟩ := setO_get I ha
  refine call_len_set ho hex hd hf (by unfold scanBound at hb; omega) ⟨.int es.size, H, I.tok _, ⟨_, rfl⟩, ?_⟩
  have := q (es.toList.map keyOf) nd fun k => (hm k).symm
  rw [List.length_map, Array.length_toList] at this
  exact this
end
end L2
namespace DL
open PySem PySem.Spec PyProof.Rows L2
/-- each once, ascending -/
def insU (x : Int) : List Int → List Int
  | [] => [x]
  | y :: r => if x < y then x :: y :: r else if x = y then y :: r else y :: insU x r
def uniqI : List Int → List Int
  | [] => []
  | x :: r => insU x (uniqI r)
theorem insU_mem (x k : Int) : ∀ l : List Int, k ∈ insU x l ↔ k = x ∨ k ∈ l
  | [] => by simp [insU]
  | y :: r => by
    have ih := insU_mem x k r
    unfold insU
    split
    · simp
    · split
      · rename_i h
        subst h
        simp
      · simp only [List.mem_cons, ih]
        constructor
        · rintro (h | h | h) <;> simp [h]
        · rintro (h | h | h) <;> simp [h]
theorem uniqI_mem (k : Int) : ∀ l : List Int, k ∈ uniqI l ↔ k ∈ l
  | [] => by simp [uniqI]
  | x :: r => by
    unfold uniqI
    rw [insU_mem, uniqI_mem k r, List.mem_cons]
theorem insU_asc (x : Int) : ∀ {l : List Int}, l.Pairwise (· < ·) → (insU x l).Pairwise (· < ·)
  | [], _ => by simp [insU]
  | y :: r, h => by
    obtain ⟨h1, h2⟩ := List.pairwise_cons.mp h
    unfold insU
    split
    · rename_i hx
      refine List.pairwise_cons.mpr ⟨fun z hz => ?_, h⟩
      rcases List.mem_cons.mp hz with e | hz
      · omega
      · have := h1 z hz
        omega
    · split
      · exact h
      · refine List.pairwise_cons.mpr ⟨fun z hz => ?_, insU_asc x h2⟩
        rcases (insU_mem x z r).mp hz with e | hz
        · omega
        · exact h1 z hz
theorem uniqI_asc : ∀ l : List Int, (uniqI l).Pairwise (· < ·)
  | [] => .nil
  | x :: r => insU_asc x (uniqI_asc r)
theorem asc_nodup {l : List Int} (h : l.Pairwise (· < ·)) : l.Nodup := h.imp fun h => by omega
theorem asc_unique {l m : List Int} (a : l.Pairwise (· < ·)) (b : m.Pairwise (· < ·)) (h : ∀ k, k ∈ l ↔ k ∈ m) : l = m :=
  List.Perm.eq_of_pairwise (fun x y _ _ h1 h2 => by omega) a b ((List.perm_ext_iff_of_nodup (asc_nodup a) (asc_nodup b)).mpr h)
theorem asc_length {l m : List Int} (a : l.Nodup) (b : m.Nodup) (h : ∀ k, k ∈ l ↔ k ∈ m) : l.length = m.length := ((List.perm_ext_iff_of_nodup a b).mpr h).length_eq
/-- sorted(set(xs)), of at most 63 -/
def sortedSetD := arg1F fun d => match d with
  | .list ds => match intsOf ds with
    | some ns => if ns.length < 64 then some ((uniqI ns).map PyData.int) else none
    | none => none
  | _ => none
/-- len(set(xs)) -/
def lenSetD := arg1 fun d => match d with
  | .list ds => match intsOf ds with
    | some ns => if ns.length ≤ 4000 then some (.int ((uniqI ns).length : Int)) else none
    | none => none
  | _ => none
end DL

/-! DL, part n: extend by a tuple, lists of ranges, sets of lists of ints. -/
namespace L2
open PySem PySem.Spec PyProof.Rows
theorem extend_by_tup (l : Addr) (items : Array Value) (n : Nat) (b : Addr) (items2 : Array Value) (n2 : Nat) (dd : Option Addr) (sl : Array (Option Value)) (hs0 : ¬(!items.isEmpty && Builtin.List.listTooLong (items.size + items2.size)) = true) (hs1 : items.size ≤ sizeLine) (hs2 : items.size + items2.size ≤ sizeLine + 1) :
    Meets (Builtin.«list.extend» ⟨[.ref l, .ref b], []⟩) (fun _ R s => s.heap.get? l = some { cls := .type "list", dict := none, data := .seq items n, slots := #[] } ∧ s.heap.get? b = some { cls := .type "tuple", dict := dd, data := .seq items2 n2, slots := sl } ∧ R (.ok (.ret Value.none)) { s with heap := s.heap.update l (Obj.mapSeq fun x => x ++ items2), toks := s.toks }) :=
  .of_wp fun prog w A R s h => by
    obtain ⟨hp, g, d, tk, os⟩ := s
    obtain ⟨hl, hb, h⟩ := h
    have f1 := PySem.AutoSeq1.idx_int
    have f2 := sub_tuple_tuple
    have f3 := sub_list_list
    have f4 := sub_tuple_list
    have f5 := sub_list_tuple
    have hz' : (items ++ items2).size ≤ sizeLine + 1 := by rw [Array.size_append]; exact hs2
    wp_walk using (wpAny_updateSeq hl rfl (hz := hs1) (_hz' := hz')), wpAny_loadPart' hl, wpAny_loadPart' hb
    exact ⟨_, rfl, h⟩
section
variable {X : Cx}
/-- xs.extend(ys) of a tuple -/
def rExtendT (K : PySem.W.Frag) : V → List V → Hp → VK → Prop := fun x vs H Q => ∃ l b xs zs, x = .ref l ∧ vs = [.ref b] ∧ H l = some (.lst xs) ∧ SqT K H b zs ∧ xs.length + zs.length ≤ sizeLine ∧ Q .non (upd H l (.lst (xs ++ zs)))
theorem mt_extendT : MtM X "list.extend" (rExtendT X.K) := by
  intro pins s σ H x vs v us Q I rx rv h
  obtain ⟨l, b, xs, zs, rfl, rfl, hH, hB, hz, q⟩ := h
  cases rx
  obtain ⟨u, rfl, ru⟩ := rv.one
  cases ru
  obtain ⟨z, its, n, r, hl, e⟩ := I.lstM hH
  obtain ⟨its2, r2, ⟨⟨cls2, dd, data2, sl⟩, e2, hc2, n2, hd2⟩, hl2⟩ := I.tuple hB
  simp only at hc2 hd2
  subst hc2 hd2
  have h2 := r2.length
  have hsz : its.toArray.size + its2.toArray.size ≤ sizeLine := by rw [List.size_toArray, List.size_toArray]; omega
  have hlong : ¬ (!its.toArray.isEmpty && Builtin.List.listTooLong (its.toArray.size + its2.toArray.size)) = true := by
    rw [notLongL hsz, Bool.and_false]
    exact Bool.false_ne_true
  refine call_meets F.slot_list_extend ⟨_, e, rfl⟩ F.entry_list_extend (F.args_list_extend_2 _ _)
    (extend_by_tup l its.toArray n b its2.toArray n2 dd sl hlong (by rw [List.size_toArray]; omega) (by omega)) ⟨e, e2, ?_⟩
  refine ⟨.non, _, I.lset (its' := its ++ its2) hH e (by simp) (r.append r2) ?_, rfl, q⟩
  rw [List.length_append]
  omega
end
end L2
namespace DL
open PySem PySem.Spec PyProof.Rows L2
section
variable {X : Cx} {st : Stmt} {e : Expr}
/-- xs.extend(ys) of a tuple -/
def sExtT (i : Nat) (m : DM) : SM := fun env => bnd (m env) fun d => match getO env i, d with
  | some ds, .tuple es => if ds.length + es.length ≤ lim then ret (.nx (env.set i (some (.own (ds ++ es))))) else fail
  | _, _ => fail
theorem ds_extT {i : Nat} {m : DM} (h : PS X st (tDrop (tBM X.K "list" (rExtendT X.K) (tVar i) (tCons (rdE X.K m) tNil)))) : DS X st (sExtT i m) := h.imp fun D σ H ⟨F, B, W, env, n, r, n', rl, e, k⟩ => by
  obtain ⟨d, n1, e1, e⟩ := bnd_some e
  obtain ⟨ds, es, ho, rfl, hl, e2⟩ : ∃ ds es, getO env i = some ds ∧ d = .tuple es ∧ ds.length + es.length ≤ lim ∧ ret (Fl.nx (env.set i (some (.own (ds ++ es))))) n1 = some (r, n') := by
    cases ho : getO env i with
    | none => simp only [ho, fail] at e; cases e
    | some ds =>
      cases d with
      | tuple es =>
        simp only [ho] at e
        by_cases hl : ds.length + es.length ≤ lim
        · rw [if_pos hl] at e
          exact ⟨ds, es, rfl, rfl, hl, e⟩
        · rw [if_neg hl] at e
          cases e
      | _ => simp only [ho, fail] at e; cases e
  obtain ⟨rfl, rfl⟩ := ret_some e2
  obtain ⟨a, xs, h1, h2, h3⟩ := own_at rl ho
  refine ⟨_, h1, .inl ⟨rfl, xs, .of h2⟩, F, B, W, env, n, _, _, rl, e1, fun v F1 H1 g rl1 p => ?_⟩
  obtain ⟨a', xs', h1', h2', h3'⟩ := own_at rl1 ho
  rw [h1] at h1'
  cases h1'
  obtain ⟨b, zs, rfl, hb, rb⟩ := p.tup_inv
  refine ⟨a, b, xs', zs, rfl, rfl, h2', sqt_mono rl1.zn.ff hb, by rw [h3'.len, rb.len]; exact lim_le hl, ?_⟩
  exact k σ F1 _ g.f (rl1.updOwn (getO_some ho) h1 (h3'.append rb))
@[simp] theorem e_ExtT (i : Nat) (m : DM) (env : DL.Env) : sExtT i m env = bnd (m env) fun d => match getO env i, d with
  | some ds, .tuple es => if ds.length + es.length ≤ lim then ret (.nx (env.set i (some (.own (ds ++ es))))) else fail
  | _, _ => fail := (rfl)
/-- list(range(a, b)) -/
def listRg2 (a b : DM) : AM := fun env => bnd (a env) fun x => bnd (b env) fun y => match x, y with
  | .int i, .int j => if -big ≤ i ∧ i ≤ big ∧ -big ≤ j ∧ j ≤ big ∧ j - i ≤ 16000000 then ret (rangeD i j) else fail
  | _, _ => fail
@[simp] theorem e_listRg2 (a b : DM) (env : DL.Env) : listRg2 a b env = bnd (a env) fun x => bnd (b env) fun y => match x, y with
  | .int i, .int j => if -big ≤ i ∧ i ≤ big ∧ -big ≤ j ∧ j ≤ big ∧ j - i ≤ 16000000 then ret (rangeD i j) else fail
  | _, _ => fail := (rfl)
theorem rgV_rp {K : PySem.W.Frag} {F : Hp} (i j : Int) : RpAll K F (rgV i j) (rangeD i j) := by
  have h := RpAll.ints (K := K) (F := F) ((List.range (j - i).toNat).map fun (k : Nat) => i + (k : Int))
  rw [List.map_map, List.map_map] at h
  exact h
theorem fe_listRg2 {a b : DM} (h : PE X e (tLstRg (tRg2 (rdE X.K a) (rdE X.K b)))) : FE X e (listRg2 a b) := h.imp fun σ H Q ⟨F, B, W, env, n, ds, n', rl, e, k⟩ => by
  obtain ⟨x, n1, e1, e⟩ := bnd_some e
  obtain ⟨y, n2, e2, e⟩ := bnd_some e
  refine ⟨F, B, W, env, n, x, n1, rl, e1, fun v1 F1 H1 g1 rl1 p1 => ⟨F1, B, W, env, n1, y, n2, rl1, e2, fun v2 F2 H2 g2 rl2 p2 => ?_⟩⟩
  match x, y, e, p1, p2 with
  | .int i, .int j, e, p1, p2 =>
    dsimp only at e
    by_cases c : -big ≤ i ∧ i ≤ big ∧ -big ≤ j ∧ j ≤ big ∧ j - i ≤ 16000000
    · rw [if_pos c] at e
      obtain ⟨rfl, rfl⟩ := ret_some e
      obtain ⟨c1, c2, c3, c4, c5⟩ := c
      unfold big at c1 c2 c3 c4
      refine ⟨i, j, p1.int_inv, p2.int_inv, ⟨by omega, by omega, by omega, by omega, by omega⟩, fun q hq => ?_⟩
      have gr : Gr F2 H2 F2 (upd H2 q (.lst (rgV i j))) := .mine rl2.zn.ff hq
      have g12 := g1.trans g2
      exact k q _ F2 _ (g12.trans (.of gr)) (rl2.gr gr) (g12.keepNone rl rl2 hq) upd_same (same_none rl2.zn.ff hq) (rgV_rp i j)
    · rw [if_neg c] at e
      cases e
/-- len(set(xs)) -/
theorem de_lenSet {a : DM} (h : PE X e (tCB (rLenSetO X.w) (tCons (tCB (rSetLI X.K X.w) (tCons (rdL X.K a) tNil)) tNil))) : DE X e (dCallB lenSetD (aCons a aNil)) := h.imp fun σ H Q ⟨F, B, W, env, n, ds, n', rl, e, k⟩ => by
  obtain ⟨x, n1, e1, e⟩ := bnd_some e
  obtain ⟨d, n2, e3, e4⟩ := bnd_some e1
  rw [aNil, bnd_ret] at e4
  obtain ⟨rfl, rfl⟩ := ret_some e4
  obtain ⟨e5, rfl⟩ := lift_some e
  obtain ⟨d, hx, e6⟩ := arg1_some e5
  cases hx
  refine ⟨F, B, W, env, n, d, _, rl, e3, fun v F1 H1 g1 rl1 p1 => ?_⟩
  cases d with
  | list es =>
    simp only at e6
    split at e6
    · rename_i ns hn
      split at e6
      · rename_i hz
        cases e6
        obtain ⟨b, xs, rfl, hb, r⟩ := p1.lp.lst_inv rl1.zn.ff
        rw [intsOf_some hn] at r
        rw [r.ints_inv] at hb
        refine ⟨b, ns, rfl, .of hb, hz, fun p c hp hc => ⟨p, _, c, rfl, upd_same, fun ns' ha hm => ?_⟩⟩
        have gr : Gr F1 H1 F1 (upd H1 p (SetO X.w p (fun j => decide (j ∈ ns)) c)) := .mine rl1.zn.ff hp
        have hu : ns'.length = (uniqI ns).length := asc_length ha (asc_nodup (uniqI_asc ns)) fun k => by
          rw [hm, uniqI_mem]
          simp
        rw [hu]
        exact k _ F1 _ (g1.trans (.of gr)) (rl1.gr gr) (.int _)
      · cases e6
    · cases e6
  | _ => cases e6
/-- sorted(set(xs)) -/
theorem fe_sortedSet {a : DM} (h : PE X e (tCB (rSortedSet X.w) (tCons (tCB (rSetLI X.K X.w) (tCons (rdL X.K a) tNil)) tNil))) : FE X e (dCallF sortedSetD (aCons a aNil)) := h.imp fun σ H Q ⟨F, B, W, env, n, ds, n', rl, e, k⟩ => by
  obtain ⟨x, n1, e1, e⟩ := bnd_some e
  obtain ⟨d, n2, e3, e4⟩ := bnd_some e1
  rw [aNil, bnd_ret] at e4
  obtain ⟨rfl, rfl⟩ := ret_some e4
  obtain ⟨e5, rfl⟩ := lift_some e
  obtain ⟨d, hx, e6⟩ := arg1F_some e5
  cases hx
  refine ⟨F, B, W, env, n, d, _, rl, e3, fun v F1 H1 g1 rl1 p1 => ?_⟩
  cases d with
  | list es =>
    simp only at e6
    split at e6
    · rename_i ns hn
      split at e6
      · rename_i hz
        cases e6
        obtain ⟨b, xs, rfl, hb, r⟩ := p1.lp.lst_inv rl1.zn.ff
        rw [intsOf_some hn] at r
        rw [r.ints_inv] at hb
        refine ⟨b, ns, rfl, .of hb, by omega, fun p c hp hc => ⟨p, _, c, rfl, upd_same, by omega, fun ns' q ha hm hl hq => ?_⟩⟩
        have hu : ns' = uniqI ns := asc_unique ha (uniqI_asc ns) fun k => by
          rw [hm, uniqI_mem]
          simp
        subst hu
        have gr : Gr F1 H1 F1 (upd H1 p (SetO X.w p (fun j => decide (j ∈ ns)) c)) := .mine rl1.zn.ff hp
        have rl2 := rl1.gr gr
        have gr2 : Gr F1 (upd H1 p (SetO X.w p (fun j => decide (j ∈ ns)) c)) F1 (upd (upd H1 p (SetO X.w p (fun j => decide (j ∈ ns)) c)) q (.lst ((uniqI ns).map V.int))) := .mine rl2.zn.ff hq
        have g2 := g1.trans (.of gr)
        exact k q _ F1 _ (g2.trans (.of gr2)) (rl2.gr gr2) (g2.keepNone rl rl2 hq) upd_same (same_none rl2.zn.ff hq) (.ints _)
      · cases e6
    · cases e6
  | _ => cases e6
end
end DL

/-! DL, part o: zip of tuples, sorted lists of pairs of ints. -/
namespace DL
open PySem PySem.Spec PyProof.Rows L2
/-! ### zip -/
def zipD : List PyData → List PyData → List PyData
  | x :: xs, y :: ys => .tuple [x, y] :: zipD xs ys
  | _, _ => []
def itemsZ (a b : DM) : AM := fun env => bnd (a env) fun x => bnd (b env) fun y => lift (match x, y with
  | .tuple xs, .tuple ys => some (zipD xs ys)
  | _, _ => none)
@[simp] theorem e_itemsZ (a b : DM) (env : DL.Env) : itemsZ a b env = bnd (a env) fun x => bnd (b env) fun y => lift (match x, y with
  | .tuple xs, .tuple ys => some (zipD xs ys)
  | _, _ => none) := (rfl)
theorem zipD_get : ∀ {xs ys : List PyData} {i : Nat}, i < (zipD xs ys).length → ∃ x y, xs[i]? = some x ∧ ys[i]? = some y ∧ (zipD xs ys)[i]? = some (.tuple [x, y])
  | x :: xs, y :: ys, 0, _ => ⟨x, y, rfl, rfl, rfl⟩
  | x :: xs, y :: ys, i + 1, h => zipD_get (xs := xs) (ys := ys) (i := i) (Nat.lt_of_succ_lt_succ h)
  | [], _, i, h => absurd h (Nat.not_lt_zero _)
  | _ :: _, [], i, h => absurd h (Nat.not_lt_zero _)
theorem zipD_end : ∀ (xs ys : List PyData), xs.length ≤ (zipD xs ys).length ∨ ys.length ≤ (zipD xs ys).length
  | x :: xs, y :: ys => by
    rcases zipD_end xs ys with h | h
    · exact .inl (Nat.succ_le_succ h)
    · exact .inr (Nat.succ_le_succ h)
  | [], _ => .inl (Nat.zero_le _)
  | _ :: _, [] => .inr (Nat.zero_le _)
section
variable {X : Cx} {tg e : Expr} {K : PySem.W.Frag}
theorem rp_get {F : Hp} : ∀ {vs : List V} {ds : List PyData}, RpAll K F vs ds → ∀ {i : Nat} {d : PyData}, ds[i]? = some d → ∃ v, vs[i]? = some v ∧ Rp K F v d
  | _, _, .nil, i, d, h => by simp at h
  | _, _, .cons h1 h2, 0, d, h => by
    simp only [List.getElem?_cons_zero, Option.some.injEq] at h
    subst h
    exact ⟨_, rfl, h1⟩
  | _, _, .cons h1 h2, i + 1, d, h => by
    simp only [List.getElem?_cons_succ] at h ⊢
    exact rp_get h2 h
theorem wk_zip {F : Hp} {a b : Addr} {xs ys : List V} {ds es : List PyData} (h1 : SqT K F a xs) (r1 : RpAll K F xs ds) (h2 : SqT K F b ys) (r2 : RpAll K F ys es) : Wk K (RZ.ItzT K a b) F (zipD ds es) := by
  refine ⟨fun i H s hi => ?_, fun H s => ?_, fun i F1 H x H' s1 s hi q => ?_⟩
  · obtain ⟨d1, d2, e1, e2, _⟩ := zipD_get hi
    obtain ⟨v1, g1, _⟩ := rp_get r1 e1
    obtain ⟨v2, g2, _⟩ := rp_get r2 e2
    exact ⟨xs, ys, v1, v2, sqt_mono s h1, sqt_mono s h2, g1, g2⟩
  · refine ⟨xs, ys, sqt_mono s h1, sqt_mono s h2, ?_⟩
    rw [r1.len, r2.len]
    exact zipD_end ds es
  · obtain ⟨T, v1, v2, rfl, hT, rfl, q1, q2⟩ := q
    obtain ⟨d1, d2, e1, e2, e3⟩ := zipD_get hi
    obtain ⟨w1, g1, p1⟩ := rp_get r1 e1
    obtain ⟨w2, g2, p2⟩ := rp_get r2 e2
    have z1 := q1 xs (sqt_mono (s1.trans s) h1)
    have z2 := q2 ys (sqt_mono (s1.trans s) h2)
    rw [g1] at z1
    rw [g2] at z2
    cases z1
    cases z2
    have gr : Gr F1 H (upd F1 T (.tup [v1, v2])) (upd H T (.tup [v1, v2])) := .new s hT
    exact ⟨_, _, e3, gr, .tup (.of upd_same) (.cons ((p1.mono s1).mono gr.f) (.cons ((p2.mono s1).mono gr.f) .nil))⟩
theorem di_zip {ma mb : DM} (h : PI X tg e (RZ.iZipA X.K (rdA X.K (aCons ma (aCons mb aNil))))) : DI X tg e (itemsZ ma mb) := h.imp fun σ H R ⟨F, B, W, env, n, ds, n', rl, e, k⟩ => by
  obtain ⟨d, n1, e1, e⟩ := bnd_some e
  obtain ⟨d2, n2, e2, e⟩ := bnd_some e
  obtain ⟨e3, rfl⟩ := lift_some e
  refine ⟨F, B, W, env, n, [d, d2], n', rl, ?_, fun vs F1 H1 s1 rl1 p1 => ?_⟩
  · simp [aCons, aNil, bnd, ret, e1, e2]
  · match d, d2, e3, p1 with
    | .tuple xs, .tuple ys, e3, p1 =>
      cases e3
      cases p1 with
      | cons q1 p2 =>
        cases p2 with
        | cons q2 p3 =>
          cases p3
          obtain ⟨a, us, rfl, ha, ra⟩ := q1.tup_inv
          obtain ⟨b, ws, rfl, hb, rb⟩ := q2.tup_inv
          exact ⟨a, b, us, ws, rfl, .inr ⟨sqt_mono rl1.zn.ff ha, sqt_mono rl1.zn.ff hb, k _ F1 H1 s1 rl1 (wk_zip ha ra hb rb)⟩⟩
end
/-! ### sorted pairs -/
def insP (x : Int × Int) : List (Int × Int) → List (Int × Int)
  | [] => [x]
  | y :: r => if SrtO.lexB y x = true then y :: insP x r else x :: y :: r
def sortP : List (Int × Int) → List (Int × Int)
  | [] => []
  | x :: r => insP x (sortP r)
theorem insP_perm (x : Int × Int) : ∀ l : List (Int × Int), (insP x l).Perm (x :: l)
  | [] => .refl _
  | y :: r => by
    unfold insP
    split
    · exact ((insP_perm x r).cons y).trans (.swap x y r)
    · exact .refl _
theorem sortP_perm : ∀ l : List (Int × Int), (sortP l).Perm l
  | [] => .refl _
  | x :: r => (insP_perm x (sortP r)).trans ((sortP_perm r).cons x)
def LeP (a b : Int × Int) : Prop := a.1 < b.1 ∨ (a.1 = b.1 ∧ a.2 ≤ b.2)
theorem leP_of {a b : Int × Int} (h : SrtO.lexB b a = false) : LeP a b := by
  have := SrtO.lexB_no.mp h
  unfold LeP
  omega
theorem insP_asc (x : Int × Int) : ∀ {l : List (Int × Int)}, l.Pairwise LeP → (insP x l).Pairwise LeP
  | [], _ => by simp [insP]
  | y :: r, h => by
    obtain ⟨h1, h2⟩ := List.pairwise_cons.mp h
    unfold insP
    split
    · rename_i c
      have c' := SrtO.lexB_iff.mp c
      refine List.pairwise_cons.mpr ⟨fun z hz => ?_, insP_asc x h2⟩
      rcases List.mem_cons.mp ((insP_perm x r).mem_iff.mp hz) with e | hz
      · rw [e]
        unfold LeP
        omega
      · exact h1 z hz
    · rename_i c
      have c' := leP_of (by simpa using c)
      refine List.pairwise_cons.mpr ⟨fun z hz => ?_, h⟩
      rcases List.mem_cons.mp hz with e | hz
      · rw [e]
        exact c'
      · have := h1 z hz
        unfold LeP at *
        omega
theorem sortP_asc : ∀ l : List (Int × Int), (sortP l).Pairwise LeP
  | [] => .nil
  | x :: r => insP_asc x (sortP_asc r)
theorem sortP_uniq {l m : List (Int × Int)} (h : l.Perm m) (a : l.Pairwise LeP) : l = sortP m :=
  List.Perm.eq_of_pairwise (fun x y _ _ h1 h2 => by
    unfold LeP at *
    exact Prod.ext (by omega) (by omega)) a (sortP_asc m) (h.trans (sortP_perm m).symm)
def twoD (p : Int × Int) : PyData := .tuple [.int p.1, .int p.2]
end DL
namespace L2
open PySem PySem.Spec PyProof.Rows DL
/-- the two ints of a tuple, in a heap -/
def pairAt (h : Heap) (x : V) : Int × Int := match x with
  | .ref t => match h.get? t with
    | some o => match o.data with
      | .seq its _ => match its.toList with
        | [.int i _, .int j _] => (i, j)
        | _ => (0, 0)
      | _ => (0, 0)
    | none => (0, 0)
  | _ => (0, 0)
def rSortedPT (K : PySem.W.Frag) : List V → Hp → VK → Prop := fun vs H Q => ∃ (F : Hp) (a : Addr) (xs : List V) (ps : List (Int × Int)), vs = [V.ref a] ∧ Same F H ∧ SqL K H a xs ∧ RpAll K F xs (ps.map twoD) ∧
  ∀ ys p, RpAll K F ys ((sortP ps).map twoD) → H p = none → Q (.ref p) (upd H p (.lst ys))
section
variable {X : Cx}
theorem pairAt_of {pins : List (Addr × Obj)} {σ : St} {H F : Hp} {s : Shared} (I : Inv X pins σ H s) (sm : Same F H) {x : V} {p : Int × Int} (h : Rp X.K F x (twoD p)) :
    pairAt s.heap x = p ∧ ∃ t o t1 t2 n, x = .ref t ∧ s.heap.get? t = some o ∧ o.cls = .type "tuple" ∧ o.data = .seq #[.int p.1 t1, .int p.2 t2] n := by
  obtain ⟨t, us, rfl, ht, hr⟩ := h.tup_inv
  have e : us = [.int p.1, .int p.2] := hr.ints_inv (ns := [p.1, p.2])
  subst e
  obtain ⟨its, r2, ⟨o, ho, hc, n, hd⟩, _⟩ := I.tuple (sqt_mono sm ht)
  obtain ⟨u1, u2, rfl, ri, rj⟩ := vals2 r2
  obtain ⟨t1, rfl⟩ := ri
  obtain ⟨t2, rfl⟩ := rj
  refine ⟨?_, t, o, t1, t2, n, rfl, ho, hc, hd⟩
  unfold pairAt
  simp [ho, hd]
theorem pairAt_all {pins : List (Addr × Obj)} {σ : St} {H F : Hp} {s : Shared} (I : Inv X pins σ H s) (sm : Same F H) : ∀ {xs : List V} {ps : List (Int × Int)}, RpAll X.K F xs (ps.map twoD) → xs.map (pairAt s.heap) = ps ∧ ∀ x ∈ xs, Rp X.K F x (twoD (pairAt s.heap x))
  | [], [], _ => ⟨rfl, fun _ h => nomatch h⟩
  | x :: xs, [], h => by cases h
  | [], p :: ps, h => by cases h
  | x :: xs, p :: ps, .cons h1 h2 => by
    obtain ⟨e1, e2⟩ := pairAt_all I sm h2
    have e := (pairAt_of I sm h1).1
    refine ⟨by rw [List.map_cons, e, e1], fun y hy => ?_⟩
    rcases List.mem_cons.mp hy with rfl | hy
    · rw [e]
      exact h1
    · exact e2 y hy
theorem rp_map {K : PySem.W.Frag} {F : Hp} (f : V → PyData) : ∀ {ys : List V}, (∀ y ∈ ys, Rp K F y (f y)) → RpAll K F ys (ys.map f)
  | [], _ => .nil
  | y :: ys, h => .cons (h y List.mem_cons_self) (rp_map f fun z hz => h z (List.mem_cons_of_mem _ hz))
theorem cr_sortedPT : CallR X (.builtin "sorted") (rSortedPT X.K) := by
  intro pins s σ H vs us Q I r h
  obtain ⟨F, a, xs, ps, rfl, sm, hs, hr, q⟩ := h
  obtain ⟨its, rv, hl, hz⟩ := I.list hs
  obtain ⟨u, rfl, ru⟩ := vals1 r
  obtain rfl : u = Value.ref a := ru
  obtain ⟨ep, er⟩ := pairAt_all I sm hr
  obtain ⟨e1, e2⟩ := refs_back rv fun x m => by
    obtain ⟨_, t, o, t1, t2, n, e, _⟩ := pairAt_of I sm (er x m)
    exact ⟨t, e⟩
  refine SrtO.sorted_pairsO (k := fun u => pairAt s.heap (backV u)) hl.isList (by rw [← rv.length]; exact hz) (fun v hv => ?_) fun h' d out h1 h2 kp hd hn => ?_
  · obtain ⟨t, rfl⟩ := e2 v hv
    have hm : V.ref t ∈ xs := by rw [e1]; exact List.mem_map.mpr ⟨_, hv, rfl⟩
    obtain ⟨_, t', o, t1, t2, n, e, ho, hc, hd⟩ := pairAt_of I sm (er _ hm)
    cases e
    exact ⟨t, o, t1, t2, n, rfl, ho, hc, hd⟩
  · have h3 : ∀ u ∈ out, ∃ a, u = Value.ref a := fun u hu => e2 u (h2.perm.mem_iff.mp hu)
    obtain ⟨n, hn⟩ := hn
    have hperm : (out.map backV).Perm xs := by
      rw [e1]
      exact h2.perm.map backV
    have hasc : ((out.map backV).map (pairAt s.heap)).Pairwise LeP := by
      rw [List.map_map]
      exact List.pairwise_map.mpr (h1.imp fun hh => leP_of hh)
    have hq : (out.map backV).map (pairAt s.heap) = sortP ps := sortP_uniq (by rw [← ep]; exact hperm.map _) hasc
    have hrp : RpAll X.K F (out.map backV) ((sortP ps).map twoD) := by
      rw [← hq, List.map_map]
      exact rp_map _ fun y hy => er y (hperm.mem_iff.mp hy)
    refine ⟨.ref d, upd H d (.lst (out.map backV)), I.laid (t' := s.toks) kp hd ⟨?_, out, n, vals_back h3, hn⟩, rfl, q _ d hrp (I.hok.fresh hd)⟩
    rw [hperm.length_eq]
    exact hz
end
end L2
namespace DL
open PySem PySem.Spec PyProof.Rows L2
def pairsD : List PyData → Option (List (Int × Int))
  | [] => some []
  | d :: ds => match d with
    | .tuple [.int i, .int j] => match pairsD ds with
      | some r => some ((i, j) :: r)
      | none => none
    | _ => none
theorem pairsD_some : ∀ {ds : List PyData} {ps : List (Int × Int)}, pairsD ds = some ps → ds = ps.map twoD
  | [], ps, h => by
    cases h
    rfl
  | d :: ds, ps, h => by
    unfold pairsD at h
    split at h
    · split at h
      · rename_i r hr
        cases h
        rw [pairsD_some hr]
        rfl
      · cases h
    · cases h
@[simp] theorem pairsD_map : ∀ ps : List (Int × Int), pairsD (ps.map twoD) = some ps
  | [] => rfl
  | p :: ps => by
    have := pairsD_map ps
    rw [List.map_cons]
    show (match pairsD (ps.map twoD) with
      | some r => some ((p.1, p.2) :: r)
      | none => none) = _
    rw [this]
def sortedPD := arg1F fun d => match d with
  | .list ds => match pairsD ds with
    | some ps => some ((sortP ps).map twoD)
    | none => none
  | _ => none
theorem r_sortedP {K : PySem.W.Frag} : RCF K (rSortedPT K) sortedPD := fun F H vs ds d Q s p' e' k => by
  obtain ⟨x, rfl, e⟩ := arg1F_some e'
  obtain ⟨v, rfl, p⟩ := p'.one
  split at e
  · split at e
    · rename_i ps hn
      cases e
      obtain ⟨a, xs, rfl, h, r⟩ := p.lst_inv s
      rw [pairsD_some hn] at r
      exact ⟨F, a, xs, ps, rfl, s, .of h, r, fun ys p ry hp => k p ys hp ry⟩
    · cases e
  · cases e
end DL

/-! DL, part p: dicts with keys of one int or text. -/
namespace L2
open PySem PySem.Spec PyProof.Rows
section
variable {X : Cx}
/-- d.update(o) of two dicts -/
def rUpdD : V → List V → Hp → VK → Prop := fun x vs H Q => ∃ (d o : Addr) (kvs more : List (Key × V)), x = .ref d ∧ vs = [.ref o] ∧ H d = some (.dK kvs) ∧ H o = some (.dK more) ∧ d ≠ o ∧ kvs.length + more.length ≤ sizeLine ∧ Q .non (upd H d (.dK (mergeK kvs more)))
theorem mt_dupdate : MtR X "dict.update" rUpdD := by
  intro pins s σ H x xs v us Q I rx rxs h
  obtain ⟨d, o, kvs, more, rfl, rfl, hd, ho, hne, hz, q⟩ := h
  cases rx
  obtain ⟨u, rfl, ru⟩ := rxs.one
  cases ru
  obtain ⟨z1, m1, vs1, r1, d1⟩ := dk_of I.hok hd
  obtain ⟨z2, m2, vs2, r2, d2⟩ := dk_of I.hok ho
  refine call_meetsIn PySem.F.slot_dict_update d1.typeIs PySem.F.entry_dict_update (PySem.F.args_dict_update_2 _ _) (meets_dict_update (mixKind X.prog X.w) d o hne m2) ⟨vs1, vs2, d1, d2, by rw [← r1.length, ← r2.length]; exact hz, fun h' dd dd2 hs => ?_⟩
  have hz2 : (mergeK kvs more).length ≤ sizeLine := Nat.le_trans (length_mergeK more kvs) hz
  have he : ∃ q, h'.get? d = some q := let ⟨q, _, _, hq, _⟩ := dd; ⟨q, hq⟩
  exact ⟨.non, _, d_write I (by rw [hd]; exact True.intro) hs he (dk_new hz2 m1 (r2.merge r1) dd), rfl, q⟩
end
end L2
namespace DL
open PySem PySem.Spec PyProof.Rows L2
/-! ### what dicts are as data -/
def keyOfD : PyData → Option Key
  | .int i => some (.inl i)
  | .str x => some (.inr x)
  | _ => none
theorem keyOf_keyD (k : Key) : keyOfD (keyD k) = some k := by cases k <;> rfl
theorem keyOf_some {d : PyData} {k : Key} (h : keyOfD d = some k) : d = keyD k := by
  cases d <;> cases h <;> rfl
theorem Rp.kV_inv {K : PySem.W.Frag} {F : Hp} {v : V} {k : Key} (h : Rp K F v (keyD k)) : v = kV k := by
  cases k with
  | inl i => exact h.int_inv
  | inr x => cases h; rfl
abbrev Kvs := List (PyData × PyData)
def lookD (ds : Kvs) (k : Key) : Option PyData := match ds with
  | [] => none
  | (x, d) :: r => if keyOfD x = some k then some d else lookD r k
def putAll (ds : Kvs) (k : Key) (d : PyData) : Kvs := ds.map fun p => if keyOfD p.1 = some k then (p.1, d) else p
def putD (ds : Kvs) (k : Key) (d : PyData) : Kvs := if (lookD ds k).isSome = true then putAll ds k d else ds ++ [(keyD k, d)]
def mergeD (ds : Kvs) (es : List (Key × PyData)) : Kvs := es.foldl (fun acc p => putD acc p.1 p.2) ds
section
variable {K : PySem.W.Frag} {F : Hp}
theorem look_rp (k : Key) : ∀ {kvs : List (Key × V)} {ds : Kvs}, RpKv K F kvs ds → (valV kvs k = none ∧ lookD ds k = none) ∨ ∃ v d, valV kvs k = some v ∧ lookD ds k = some d ∧ Rp K F v d
  | _, _, .nil => .inl ⟨rfl, rfl⟩
  | _, _, .cons (k := k') h r => by
    by_cases e : k' = k
    · subst e
      exact .inr ⟨_, _, valV_pos rfl, by simp [lookD, keyOf_keyD], h⟩
    · rw [valV_neg e]
      have : ¬ keyOfD (keyD k') = some k := fun z => by
        rw [keyOf_keyD] at z
        exact e (Option.some.inj z)
      simp only [lookD, if_neg this]
      exact look_rp k r
theorem putAll_rp (k : Key) {v : V} {d : PyData} (h : Rp K F v d) : ∀ {kvs : List (Key × V)} {ds : Kvs}, RpKv K F kvs ds → RpKv K F (kvs.map fun kv => if kv.1 = k then (kv.1, v) else kv) (putAll ds k d)
  | _, _, .nil => .nil
  | _, _, .cons (k := k') h' r => by
    have ih := putAll_rp k h r
    by_cases e : k' = k
    · subst e
      simp only [List.map_cons, putAll, if_true, keyOf_keyD]
      exact .cons h ih
    · have : ¬ keyOfD (keyD k') = some k := fun z => by
        rw [keyOf_keyD] at z
        exact e (Option.some.inj z)
      simp only [List.map_cons, putAll, if_neg e, if_neg this]
      exact .cons h' ih
theorem snoc_rp {k : Key} {v : V} {d : PyData} (h : Rp K F v d) : ∀ {kvs : List (Key × V)} {ds : Kvs}, RpKv K F kvs ds → RpKv K F (kvs ++ [(k, v)]) (ds ++ [(keyD k, d)])
  | _, _, .nil => .cons h .nil
  | _, _, .cons h' r => .cons h' (snoc_rp h r)
theorem put_rp {k : Key} {v : V} {d : PyData} (h : Rp K F v d) {kvs : List (Key × V)} {ds : Kvs} (r : RpKv K F kvs ds) : RpKv K F (putK kvs k v) (putD ds k d) := by
  unfold putK putD
  rw [valV_any]
  rcases look_rp k r with ⟨e1, e2⟩ | ⟨v', d', e1, e2, _⟩
  · rw [e1, e2]
    exact snoc_rp h r
  · rw [e1, e2]
    exact putAll_rp k h r
theorem put_nodup (k : Key) (v : V) {kvs : List (Key × V)} (h : (kvs.map (·.1)).Nodup) : ((putK kvs k v).map (·.1)).Nodup := by
  unfold putK
  rw [valV_any]
  cases e : valV kvs k with
  | some x =>
    simp only [Option.isSome_some, if_true]
    rw [List.map_map]
    have : ((fun kv : Key × V => kv.1) ∘ fun kv => if kv.1 = k then (kv.1, v) else kv) = fun kv => kv.1 := by
      funext kv
      show (if kv.1 = k then (kv.1, v) else kv).1 = kv.1
      split <;> rfl
    rw [this]
    exact h
  | none =>
    simp only [Option.isSome_none, Bool.false_eq_true, if_false]
    rw [List.map_append]
    refine List.nodup_append.mpr ⟨h, by simp, fun x hx y hy => ?_⟩
    have : y = k := by simpa using hy
    subst this
    intro z
    subst z
    obtain ⟨kv, hm, rfl⟩ := List.mem_map.mp hx
    have q : (kvs.any fun p => decide (p.1 = kv.1)) = true := List.any_eq_true.mpr ⟨kv, hm, by simp⟩
    rw [valV_any, e] at q
    cases q
inductive RpKd (K : PySem.W.Frag) (F : Hp) : List (Key × V) → List (Key × PyData) → Prop
  | nil : RpKd K F [] []
  | cons {k : Key} {v : V} {vs : List (Key × V)} {d : PyData} {ds : List (Key × PyData)} : Rp K F v d → RpKd K F vs ds → RpKd K F ((k, v) :: vs) ((k, d) :: ds)
theorem merge_rp : ∀ {more : List (Key × V)} {es : List (Key × PyData)} {kvs : List (Key × V)} {ds : Kvs}, RpKd K F more es → RpKv K F kvs ds → (kvs.map (·.1)).Nodup → RpKv K F (mergeK kvs more) (mergeD ds es) ∧ ((mergeK kvs more).map (·.1)).Nodup
  | _, _, kvs, ds, .nil, r, n => ⟨r, n⟩
  | _, _, kvs, ds, .cons (k := k) (v := v) (d := d) h t, r, n => by
    have := merge_rp t (put_rp (k := k) h r) (put_nodup k v n)
    exact this
end
/-- a dict's pairs by key -/
def kdOf : Kvs → Option (List (Key × PyData))
  | [] => some []
  | (x, d) :: r => match keyOfD x, kdOf r with
    | some k, some t => some ((k, d) :: t)
    | _, _ => none
theorem kd_rp {K : PySem.W.Frag} {F : Hp} : ∀ {kvs : List (Key × V)} {ds : Kvs}, RpKv K F kvs ds → ∃ es, kdOf ds = some es ∧ RpKd K F kvs es
  | _, _, .nil => ⟨[], rfl, .nil⟩
  | _, _, .cons (k := k) h r => by
    obtain ⟨es, e1, e2⟩ := kd_rp r
    exact ⟨_, by simp only [kdOf, keyOf_keyD, e1], .cons h e2⟩
/-- pairs from a list of tuples -/
def pairsK : List PyData → Option (List (Key × PyData))
  | [] => some []
  | x :: r => match x with
    | .tuple [a, d] => match keyOfD a, pairsK r with
      | some k, some t => some ((k, d) :: t)
      | _, _ => none
    | _ => none
theorem kv_keys {K : PySem.W.Frag} {F : Hp} : ∀ {kvs : List (Key × V)} {ds : Kvs}, RpKv K F kvs ds → ∀ p ∈ ds, (keyOfD p.1).isSome = true
  | _, _, .nil, p, h => nomatch h
  | _, _, .cons _ r, p, h => by
    rcases List.mem_cons.mp h with rfl | h
    · rw [keyOf_keyD]
      rfl
    · exact kv_keys r p h
/-- keys of one int or text, one at least -/
def isK (ds : Kvs) : Bool := !ds.isEmpty && ds.all fun p => (keyOfD p.1).isSome
theorem tv_notK {K : PySem.W.Frag} {F : Hp} {kvs : List (List Key × V)} {ds : Kvs} (r : RpTv K F kvs ds) (h : isK ds = true) : False := by
  cases r with
  | nil => cases h
  | cons h' r =>
    unfold isK at h
    simp [keyOfD] at h
theorem Rp.dict_inv {K : PySem.W.Frag} {F : Hp} {v : V} {ds : Kvs} (h : Rp K F v (.dict ds)) (hk : isK ds = true) : ∃ a kvs, v = .ref a ∧ F a = some (.dK kvs) ∧ (kvs.map (·.1)).Nodup ∧ RpKv K F kvs ds := by
  cases h with
  | dK h1 h2 h3 => exact ⟨_, _, rfl, h1, h2, h3⟩
  | dT h1 h2 h3 => exact (tv_notK h3 hk).elim
section
variable {X : Cx} {e i o : Expr}
/-- k in d -/
def inKD (neg : Bool) (x y : PyData) : Option PyData := match y with
  | .dict ds => match keyOfD x with
    | some k => if isK ds = true then some (.bool (if neg then !(lookD ds k).isSome else (lookD ds k).isSome)) else none
    | none => none
  | _ => none
def dInK (a b : DM) : DM := dOp (inKD false) a b
def dNotInK (a b : DM) : DM := dOp (inKD true) a b
theorem rd_in {K : PySem.W.Frag} {neg : Bool} {a b : DM} {σ : L2.St} {H : Hp} {Q : VK} (h : rdE K (dOp (inKD neg) a b) σ H Q) : (fun σ H Q => rdE K a σ H fun y H1 => rdE K b σ H1 fun x H2 => ∃ a o, x = .ref a ∧ DGet H2 a y o ∧ Q (.bl (if neg then !o.isSome else o.isSome)) H2) σ H Q := by
  obtain ⟨F, B, W, env, n, d, n', rl, e, k⟩ := h
  obtain ⟨x, n1, e1, e⟩ := bnd_some e
  obtain ⟨y, n2, e2, e⟩ := bnd_some e
  obtain ⟨e3, rfl⟩ := lift_some e
  refine ⟨F, B, W, env, n, x, n1, rl, e1, fun v1 F1 H1 g1 rl1 p1 => ⟨F1, B, W, env, n1, y, _, rl1, e2, fun v2 F2 H2 g2 rl2 p2 => ?_⟩⟩
  match y, e3, p2 with
  | .dict ds, e3, p2 =>
    unfold inKD at e3
    cases hk : keyOfD x with
    | none => simp only [hk] at e3; cases e3
    | some k0 =>
      simp only [hk] at e3
      by_cases c : isK ds = true
      · rw [if_pos c] at e3
        cases e3
        obtain ⟨a, kvs, rfl, ha, _, r⟩ := p2.dict_inv c
        have hx := keyOf_some hk
        subst hx
        rw [p1.kV_inv]
        refine ⟨a, valV kvs k0, rfl, .k (rl2.zn.ff _ _ ha), ?_⟩
        have q := k (.bl (if neg then !(lookD ds k0).isSome else (lookD ds k0).isSome)) F2 H2 (g1.trans g2) rl2 (.bl _)
        rcases look_rp k0 r with ⟨q1, q2⟩ | ⟨v', d', q1, q2, _⟩
        · rw [q1]
          rw [q2] at q
          exact q
        · rw [q1]
          rw [q2] at q
          exact q
      · rw [if_neg c] at e3
        cases e3
theorem rd_inD {K : PySem.W.Frag} {a b : DM} {σ : L2.St} {H : Hp} {Q : VK} (h : rdE K (dInK a b) σ H Q) : tDIn (rdE K a) (rdE K b) σ H Q := rd_in (neg := false) h
theorem rd_ninD {K : PySem.W.Frag} {a b : DM} {σ : L2.St} {H : Hp} {Q : VK} (h : rdE K (dNotInK a b) σ H Q) : tDNotIn (rdE K a) (rdE K b) σ H Q := rd_in (neg := true) h
theorem de_din {a b : DM} (h : PE X e (tDIn (rdE X.K a) (rdE X.K b))) : DE X e (dInK a b) := h.imp fun _ _ _ h => rd_inD h
theorem de_dnotin {a b : DM} (h : PE X e (tDNotIn (rdE X.K a) (rdE X.K b))) : DE X e (dNotInK a b) := h.imp fun _ _ _ h => rd_ninD h
/-- dict([(k, v), ..]) -/
def dictPD := arg1 fun d => match d with
  | .list ds => match pairsK ds with
    | some es => some (.dict (mergeD [] es))
    | none => none
  | _ => none
theorem pairsK_rp {K : PySem.W.Frag} {F : Hp} : ∀ {xs : List V} {ds : List PyData} {es : List (Key × PyData)}, RpAll K F xs ds → pairsK ds = some es → ∃ (ps : List Addr) (kvs : List (Key × V)), xs = ps.map V.ref ∧ Paired (fun p kv => SqT K F p [kV kv.1, kv.2]) ps kvs ∧ RpKd K F kvs es
  | _, _, es, .nil, h => by
    cases h
    exact ⟨[], [], rfl, .nil, .nil⟩
  | _, _, es, .cons (d := d) h r, e => by
    unfold pairsK at e
    split at e
    · rename_i a d'
      split at e
      · rename_i k t hk ht
        cases e
        obtain ⟨ps, kvs, e1, e2, e3⟩ := pairsK_rp r ht
        obtain ⟨b, us, rfl, hb, hr⟩ := h.tup_inv
        cases hr with
        | cons h1 h2 =>
          cases h2 with
          | cons h2 h3 =>
            cases h3
            have hx := keyOf_some hk
            subst hx
            rw [h1.kV_inv] at hb
            exact ⟨b :: ps, (k, _) :: kvs, by rw [e1]; rfl, .cons hb e2, .cons h2 e3⟩
      · cases e
    · cases e
theorem paired_mono {K : PySem.W.Frag} {F H : Hp} (s : Same F H) : ∀ {ps : List Addr} {kvs : List (Key × V)}, Paired (fun p kv => SqT K F p [kV kv.1, kv.2]) ps kvs → Paired (fun p kv => SqT K H p [kV kv.1, kv.2]) ps kvs
  | _, _, .nil => .nil
  | _, _, .cons h t => .cons (sqt_mono s h) (paired_mono s t)
def rDictP (K : PySem.W.Frag) : List V → Hp → VK → Prop := fun xs H Q => ∃ (a : Addr) (ps : List Addr) (kvs : List (Key × V)), xs = [.ref a] ∧ SqL K H a (ps.map V.ref) ∧ Paired (fun p kv => SqT K H p [kV kv.1, kv.2]) ps kvs ∧ ∀ p, H p = none → Q (.ref p) (upd H p (.dK (mergeK [] kvs)))
theorem cr_dictP (hc : X.calm = true) : CallR X (.type "dict") (rDictP X.K) := call_dictP hc
theorem r_dictP {K : PySem.W.Frag} : RCD K (rDictP K) dictPD := fun F H vs ds d Q s p' e' k => by
  obtain ⟨x, rfl, e⟩ := arg1_some e'
  obtain ⟨v, rfl, p⟩ := p'.one
  match x, e, p with
  | .list es, e, p =>
    dsimp only at e
    split at e
    · rename_i kd hn
      cases e
      obtain ⟨a, xs, rfl, h, r⟩ := p.lst_inv s
      obtain ⟨ps, kvs, e1, e2, e3⟩ := pairsK_rp r hn
      subst e1
      refine ⟨a, ps, kvs, rfl, .of h, paired_mono s e2, fun q hq => ?_⟩
      obtain ⟨m1, m2⟩ := merge_rp (kvs := []) (ds := []) e3 .nil (by simp)
      have gr : Gr F H (upd F q (.dK (mergeK [] kvs))) (upd H q (.dK (mergeK [] kvs))) := .new s hq
      exact k _ _ _ gr (.dK upd_same m2 (m1.mono gr.f))
    · cases e
end
/-! ### one's own dict -/
def getK (env : DL.Env) (i : Nat) : Option Kvs := match env[i]? with
  | some (some (.dct ds)) => some ds
  | _ => none
theorem getK_some {env : DL.Env} {i : Nat} {ds : Kvs} (h : getK env i = some ds) : env[i]? = some (some (.dct ds)) := by
  unfold getK at h
  split at h
  · cases h; assumption
  · cases h
/-- what stands at one's own dict -/
def DctAt (K : PySem.W.Frag) (F : Hp) (o : HO) (ds : Kvs) : Prop := (∃ xs, o = .dK xs ∧ (xs.map (·.1)).Nodup ∧ RpKv K F xs ds) ∨ ∃ xs ks, ds = (.none, .none) :: ks ∧ o = .dT xs ∧ (xs.map (·.1)).Nodup ∧ RpTv K F xs ks
theorem Rl.updDct {K : PySem.W.Frag} {F B H : Hp} {W : Option Wl} {σ : L2.St} {env : DL.Env} {n : Nat} {a : Addr} {ds ds' : Kvs} {o : HO} {i : Nat} (r : Rl K F B W σ H env n) (he : env[i]? = some (some (.dct ds))) (hs : σ[i]? = some (some (.ref a)))
    (r' : DctAt K F o ds') : Rl K F B W σ (upd H a o) (env.set i (some (.dct ds'))) n := by
  obtain ⟨v, h1, b, rfl, fa, ⟨ba, wa⟩, hH⟩ := r.sl i _ he
  rw [hs] at h1
  cases h1
  have hi := (List.getElem?_eq_some_iff.mp he).1
  refine ⟨⟨same_mut r.zn.ff fa, same_mut r.zn.bb ba, r.zn.dj⟩, ?_, fun j e hj => ?_, fun j k e e' u hjk h1 h2 m1 m2 h3 h4 => ?_, by simp [r.le]⟩
  · have q := r.wo
    cases W with
    | none => trivial
    | some w =>
      obtain ⟨h1, h2, h3⟩ := q
      refine ⟨Wl.upd_now h1 (wa w rfl) ?_, h2, h3⟩
      rcases hH with ⟨xs, z, _⟩ | ⟨xs, ks, _, z, _⟩
      · exact Wl.dK_code z
      · exact Wl.dT_code z
  · by_cases hij : i = j
    · subst hij
      rw [List.getElem?_set_self hi] at hj
      cases hj
      refine ⟨_, hs, a, rfl, fa, ⟨ba, wa⟩, ?_⟩
      rcases r' with ⟨xs, rfl, q1, q2⟩ | ⟨xs, ks, ek, rfl, q1, q2⟩
      · exact .inl ⟨xs, upd_same, q1, q2⟩
      · exact .inr ⟨xs, ks, ek, upd_same, q1, q2⟩
    · rw [List.getElem?_set_ne hij] at hj
      obtain ⟨v, h1, h2⟩ := r.sl j e hj
      refine ⟨v, h1, ?_⟩
      cases e with
      | val d => exact h2
      | own es =>
        obtain ⟨c, ys, rfl, q1, q2⟩ := h2
        have : c ≠ a := fun z => r.ap j i _ _ _ (Ne.symm hij) hj he rfl rfl h1 (by rw [z]; exact hs)
        exact ⟨c, ys, rfl, by rw [upd_ne this]; exact q1, q2⟩
      | dct kvs =>
        obtain ⟨c, rfl, q1, q2, q3⟩ := h2
        have : c ≠ a := fun z => r.ap j i _ _ _ (Ne.symm hij) hj he rfl rfl h1 (by rw [z]; exact hs)
        refine ⟨c, rfl, q1, q2, ?_⟩
        rw [upd_ne this]
        exact q3
      | wdr ws => exact h2
      | scr ns => exact h2
      | tabv d => exact h2
  · have back : ∀ (j : Nat) (e : En), (env.set i (some (.dct ds')))[j]? = some (some e) → e.mut = true → ∃ e0 : En, env[j]? = some (some e0) ∧ e0.mut = true := fun j e hj hm => by
      by_cases hij : i = j
      · subst hij
        exact ⟨_, he, rfl⟩
      · rw [List.getElem?_set_ne hij] at hj
        exact ⟨e, hj, hm⟩
    obtain ⟨e1, q1, q2⟩ := back j e h1 m1
    obtain ⟨e2, q3, q4⟩ := back k e' h2 m2
    exact r.ap j k e1 e2 u hjk q1 q3 q2 q4 h3 h4
def frzD (env : DL.Env) (i : Nat) : DL.Env := match getK env i with
  | some ((.none, .none) :: ds) => env.set i (some (.val (.dict ds)))
  | some ds => env.set i (some (.val (.dict ds)))
  | none => env
def sFrzD (i : Nat) (s : SM) : SM := fun env => s (frzD env i)
theorem Rl.frzD {K : PySem.W.Frag} {F B H : Hp} {W : Option Wl} {σ : L2.St} {env : DL.Env} {n : Nat} (i : Nat) (r : Rl K F B W σ H env n) : ∃ F', Same F F' ∧ Rl K F' B W σ H (DL.frzD env i) n := by
  unfold DL.frzD
  cases ho : getK env i with
  | none => exact ⟨F, .refl _, r⟩
  | some ds =>
    have he := getK_some ho
    obtain ⟨v, h1, a, rfl, fa, ⟨ba, wa⟩, hH⟩ := r.sl i _ he
    have hi := (List.getElem?_eq_some_iff.mp he).1
    have r0 : Rl K F B W σ H (env.set i none) n := by
      refine ⟨r.zn, r.wo, fun j e hj => ?_, fun j k e e' u hjk h1 h2 m1 m2 h3 h4 => ?_, by simp [r.le]⟩
      · by_cases hij : i = j
        · subst hij
          rw [List.getElem?_set_self hi] at hj
          cases hj
        · rw [List.getElem?_set_ne hij] at hj
          exact r.sl j e hj
      · have back : ∀ (j : Nat) (e : En), (env.set i none)[j]? = some (some e) → env[j]? = some (some e) := fun j e hj => by
          by_cases hij : i = j
          · subst hij
            rw [List.getElem?_set_self hi] at hj
            cases hj
          · rw [List.getElem?_set_ne hij] at hj
            exact hj
        exact r.ap j k e e' u hjk (back j e h1) (back k e' h2) m1 m2 h3 h4
    have o : ∀ (j : Nat) (e : En), (env.set i none)[j]? = some (some e) → e.mut = true → σ[j]? ≠ some (some (.ref a)) := fun j e hj hm z => by
      by_cases hij : i = j
      · subst hij
        rw [List.getElem?_set_self hi] at hj
        cases hj
      · rw [List.getElem?_set_ne hij] at hj
        exact r.ap i j _ _ _ hij he hj rfl hm h1 z
    have hσ : σ.set i (some (V.ref a)) = σ := by
      apply List.ext_getElem?
      intro j
      by_cases hij : i = j
      · subst hij
        rw [List.getElem?_set_self (by rw [← r.le]; exact hi), h1]
      · rw [List.getElem?_set_ne hij]
    rcases hH with ⟨xs, h2, h3, h4⟩ | ⟨xs, ks, rfl, h2, h3, h4⟩
    · have s : Same F (upd F a (.dK xs)) := same_new fa
      have r1 := (r0.freeze h2 fa ba wa o).set i (.dK upd_same h3 (h4.mono s) : Rp K (upd F a (.dK xs)) (.ref a) (.dict ds))
      rw [List.set_set, hσ] at r1
      refine ⟨_, s, ?_⟩
      split
      · rename_i e1
        cases e1
        have := kv_keys h4 _ List.mem_cons_self
        cases this
      · rename_i e1
        cases e1
        exact r1
      · rename_i e1
        cases e1
    · have s : Same F (upd F a (.dT xs)) := same_new fa
      have r1 := (r0.freeze h2 fa ba wa o).set i (.dT upd_same h3 (h4.mono s) : Rp K (upd F a (.dT xs)) (.ref a) (.dict ks))
      rw [List.set_set, hσ] at r1
      exact ⟨_, s, r1⟩
section
variable {X : Cx} {st : Stmt}
theorem ds_frzD {i : Nat} {s : SM} (h : DS X st s) : DS X st (sFrzD i s) := h.imp fun D σ H ⟨F, B, W, env, n, r, n', rl, e, k⟩ => by
  obtain ⟨F', sf, rl'⟩ := rl.frzD i
  exact ⟨F', B, W, _, n, r, n', rl', e, k.mono sf⟩
/-- x = dict(y): a copy of one's own -/
def sDcopy (i : Nat) (m : DM) : SM := fun env => bnd (m env) fun d => match d with
  | .dict ds => if isK ds = true then ret (.nx (env.set i (some (.dct ds)))) else fail
  | _ => fail
def rDictD : List V → Hp → VK → Prop := fun xs H Q => ∃ (a : Addr) (kvs : List (Key × V)), xs = [.ref a] ∧ Rd H a (.dK kvs) ∧ ∀ p, H p = none → Q (.ref p) (upd H p (.dK kvs))
theorem cr_dictD : CallR X (.type "dict") rDictD := call_dictD
theorem ds_dcopy {i : Nat} {m : DM} (h : PS X st (tAsg (tCB rDictD (tCons (rdE X.K m) tNil)) (gName i))) : DS X st (sDcopy i m) := h.imp fun D σ H ⟨F, B, W, env, n, r, n', rl, e, k⟩ => by
  obtain ⟨d, n1, e1, e⟩ := bnd_some e
  match d, e1, e with
  | .dict ds, e1, e =>
    dsimp only at e
    by_cases c : isK ds = true
    · rw [if_pos c] at e
      obtain ⟨rfl, rfl⟩ := ret_some e
      refine ⟨F, B, W, env, n, _, _, rl, e1, fun v F1 H1 g rl1 p1 => ?_⟩
      obtain ⟨a, kvs, rfl, ha, hn, hr⟩ := p1.dict_inv c
      refine ⟨a, kvs, rfl, .inl (rl1.zn.ff _ _ ha), fun q hq => ?_⟩
      have gr : Gr F1 H1 F1 (upd H1 q (.dK kvs)) := .mine rl1.zn.ff hq
      exact k _ F1 _ g.f ((rl1.gr gr).setOwn i ⟨q, rfl, same_none rl1.zn.ff hq, ⟨same_none rl1.zn.bb hq, rl1.wo.ne hq⟩, .inl ⟨kvs, upd_same, hn, hr⟩⟩ (fresh_ne rl1 hq i))
    · rw [if_neg c] at e
      cases e
/-- x.update(y) of one's own -/
def sUpdD (i : Nat) (m : DM) : SM := fun env => bnd (m env) fun d => match getK env i, d with
  | some ds, .dict es => match kdOf es with
    | some kd => if isK ds = true ∧ isK es = true ∧ ds.length + es.length ≤ lim then ret (.nx (env.set i (some (.dct (mergeD ds kd))))) else fail
    | none => fail
  | _, _ => fail
theorem kv_len {K : PySem.W.Frag} {F : Hp} : ∀ {kvs : List (Key × V)} {ds : Kvs}, RpKv K F kvs ds → kvs.length = ds.length
  | _, _, .nil => rfl
  | _, _, .cons _ r => by rw [List.length_cons, List.length_cons, kv_len r]
theorem dct_at {K : PySem.W.Frag} {F B H : Hp} {W : Option Wl} {σ : L2.St} {env : DL.Env} {n i : Nat} {ds : Kvs} (r : Rl K F B W σ H env n) (h : getK env i = some ds) (c : isK ds = true) : ∃ a kvs, σ[i]? = some (some (.ref a)) ∧ H a = some (.dK kvs) ∧ (kvs.map (·.1)).Nodup ∧ RpKv K F kvs ds ∧ F a = none := by
  obtain ⟨v, h1, a, rfl, fa, _, hH⟩ := r.sl i _ (getK_some h)
  rcases hH with ⟨xs, h2, h3, h4⟩ | ⟨xs, ks, ek, h2, h3, h4⟩
  · exact ⟨a, xs, h1, h2, h3, h4, fa⟩
  · subst ek
    cases c
theorem ds_updD {i : Nat} {m : DM} (h : PS X st (tDrop (tBM X.K "dict" rUpdD (tVar i) (tCons (rdE X.K m) tNil)))) : DS X st (sUpdD i m) := h.imp fun D σ H ⟨F, B, W, env, n, r, n', rl, e, k⟩ => by
  obtain ⟨d, n1, e1, e⟩ := bnd_some e
  cases ho : getK env i with
  | none =>
    simp only [ho, fail] at e
    cases e
  | some ds =>
    cases d with
    | dict es =>
      simp only [ho] at e
      cases hk : kdOf es with
      | none =>
        simp only [hk, fail] at e
        cases e
      | some kd =>
        simp only [hk] at e
        by_cases c : isK ds = true ∧ isK es = true ∧ ds.length + es.length ≤ lim
        · rw [if_pos c] at e
          obtain ⟨rfl, rfl⟩ := ret_some e
          obtain ⟨a, kvs, h1, h2, _, _, _⟩ := dct_at rl ho c.1
          refine ⟨_, h1, .inr (.inr (.inl ⟨rfl, .inl ⟨kvs, h2⟩⟩)), F, B, W, env, n, _, _, rl, e1, fun v F1 H1 g rl1 p1 => ?_⟩
          obtain ⟨a', kvs', h1', h2', h3', h4', f'⟩ := dct_at rl1 ho c.1
          rw [h1] at h1'
          cases h1'
          obtain ⟨b, more, rfl, hb, hn, hr⟩ := p1.dict_inv c.2.1
          obtain ⟨kd', k1, k2⟩ := kd_rp hr
          rw [hk] at k1
          cases k1
          obtain ⟨m1, m2⟩ := merge_rp k2 h4' h3'
          have hne : a ≠ b := fun z => by
            rw [z, hb] at f'
            cases f'
          refine ⟨a, b, kvs', more, rfl, rfl, h2', rl1.zn.ff _ _ hb, hne, by rw [kv_len h4', kv_len hr]; exact lim_le c.2.2, ?_⟩
          exact k σ F1 _ g.f (rl1.updDct (getK_some ho) h1 (.inl ⟨_, rfl, m2, m1⟩))
        · rw [if_neg c] at e
          cases e
    | _ =>
      simp only [ho, fail] at e
      cases e
end
section
variable {X : Cx} {e : Expr}
theorem rd_tOf {K : PySem.W.Frag} {m : DM} {σ : L2.St} {H : Hp} {Q : Bool → Hp → Prop} (h : rdT K (tOf m) σ H Q) : rdE K m σ H fun v H1 => ∃ c, v = .bl c ∧ Q c H1 := by
  obtain ⟨F, B, W, env, n, b, n', rl, e, k⟩ := h
  obtain ⟨d, n1, e1, e⟩ := bnd_some e
  obtain ⟨e3, rfl⟩ := lift_some e
  match d, e1, e3 with
  | .bool c, e1, e3 =>
    cases e3
    exact ⟨F, B, W, env, n, _, _, rl, e1, fun v F1 H1 g rl1 p => ⟨b, by cases p; rfl, k F1 H1 g rl1⟩⟩
theorem dt_din {a b : DM} (h : PT X e (tB (tDIn (rdE X.K a) (rdE X.K b)))) : DT X e (tOf (dInK a b)) := h.imp fun _ _ _ h => rd_inD (rd_tOf h)
theorem dt_dnotin {a b : DM} (h : PT X e (tB (tDNotIn (rdE X.K a) (rdE X.K b)))) : DT X e (tOf (dNotInK a b)) := h.imp fun _ _ _ h => rd_ninD (rd_tOf h)
theorem dss_fail {st : List Stmt} : DSs X st sFail := ⟨fun _ _ _ _ _ _ ⟨_, _, _, _, _, _, _, _, e, _⟩ => nomatch e⟩
/-- list(range(n)) -/
def listRg1 (a : DM) : AM := fun env => bnd (a env) fun x => match x with
  | .int j => if -big ≤ j ∧ j ≤ big ∧ j ≤ 16000000 then ret (rangeD 0 j) else fail
  | _ => fail
@[simp] theorem e_listRg1 (a : DM) (env : DL.Env) : listRg1 a env = bnd (a env) fun x => match x with
  | .int j => if -big ≤ j ∧ j ≤ big ∧ j ≤ 16000000 then ret (rangeD 0 j) else fail
  | _ => fail := (rfl)
theorem fe_listRg1 {a : DM} (h : PE X e (tLstRg (tRg1 (rdE X.K a)))) : FE X e (listRg1 a) := h.imp fun σ H Q ⟨F, B, W, env, n, ds, n', rl, e, k⟩ => by
  obtain ⟨x, n1, e1, e⟩ := bnd_some e
  refine ⟨F, B, W, env, n, x, n1, rl, e1, fun v1 F1 H1 g1 rl1 p1 => ?_⟩
  match x, e, p1 with
  | .int j, e, p1 =>
    dsimp only at e
    by_cases c : -big ≤ j ∧ j ≤ big ∧ j ≤ 16000000
    · rw [if_pos c] at e
      obtain ⟨rfl, rfl⟩ := ret_some e
      obtain ⟨c3, c4, c5⟩ := c
      unfold big at c3 c4
      refine ⟨j, p1.int_inv, ⟨by omega, by omega, by omega, by omega, by omega⟩, fun q hq => ?_⟩
      have gr : Gr F1 H1 F1 (upd H1 q (.lst (rgV 0 j))) := .mine rl1.zn.ff hq
      exact k q _ F1 _ (g1.trans (.of gr)) (rl1.gr gr) (g1.keepNone rl rl1 hq) upd_same (same_none rl1.zn.ff hq) (rgV_rp 0 j)
    · rw [if_neg c] at e
      cases e
end
end DL

/-! DL, part q: dicts whose keys are tuples. -/
namespace DL
open PySem PySem.Spec PyProof.Rows L2
def keysOf : List PyData → Option (List Key)
  | [] => some []
  | d :: ds => match keyOfD d, keysOf ds with
    | some k, some t => some (k :: t)
    | _, _ => none
theorem keysOf_map : ∀ k : List Key, keysOf (k.map keyD) = some k
  | [] => rfl
  | x :: k => by simp only [List.map_cons, keysOf, keyOf_keyD, keysOf_map k]
theorem keysOf_some : ∀ {ds : List PyData} {k : List Key}, keysOf ds = some k → ds = k.map keyD
  | [], k, h => by
    cases h
    rfl
  | d :: ds, k, h => by
    unfold keysOf at h
    split at h
    · rename_i x t hx ht
      cases h
      rw [List.map_cons, ← keyOf_some hx, keysOf_some ht]
    · cases h
def keyTD : PyData → Option (List Key)
  | .tuple ds => keysOf ds
  | _ => none
theorem keyTD_of (k : List Key) : keyTD (.tuple (k.map keyD)) = some k := keysOf_map k
def lookT (ds : Kvs) (k : List Key) : Option PyData := match ds with
  | [] => none
  | (x, d) :: r => if keyTD x = some k then some d else lookT r k
def putAllT (ds : Kvs) (k : List Key) (d : PyData) : Kvs := ds.map fun p => if keyTD p.1 = some k then (p.1, d) else p
def putTD (ds : Kvs) (k : List Key) (d : PyData) : Kvs := if (lookT ds k).isSome = true then putAllT ds k d else ds ++ [(.tuple (k.map keyD), d)]
section
variable {K : PySem.W.Frag} {F : Hp}
theorem lookT_rp (k : List Key) : ∀ {kvs : List (List Key × V)} {ds : Kvs}, RpTv K F kvs ds → (valV kvs k = none ∧ lookT ds k = none) ∨ ∃ v d, valV kvs k = some v ∧ lookT ds k = some d ∧ Rp K F v d
  | _, _, .nil => .inl ⟨rfl, rfl⟩
  | _, _, .cons (k := k') h r => by
    by_cases e : k' = k
    · subst e
      exact .inr ⟨_, _, valV_pos rfl, by simp [lookT, keyTD_of], h⟩
    · rw [valV_neg e]
      have : ¬ keyTD (.tuple (k'.map keyD)) = some k := fun z => by
        rw [keyTD_of] at z
        exact e (Option.some.inj z)
      simp only [lookT, if_neg this]
      exact lookT_rp k r
theorem putAllT_rp (k : List Key) {v : V} {d : PyData} (h : Rp K F v d) : ∀ {kvs : List (List Key × V)} {ds : Kvs}, RpTv K F kvs ds → RpTv K F (kvs.map fun kv => if kv.1 = k then (kv.1, v) else kv) (putAllT ds k d)
  | _, _, .nil => .nil
  | _, _, .cons (k := k') h' r => by
    have ih := putAllT_rp k h r
    by_cases e : k' = k
    · subst e
      simp only [List.map_cons, putAllT, if_true, keyTD_of]
      exact .cons h ih
    · have : ¬ keyTD (.tuple (k'.map keyD)) = some k := fun z => by
        rw [keyTD_of] at z
        exact e (Option.some.inj z)
      simp only [List.map_cons, putAllT, if_neg e, if_neg this]
      exact .cons h' ih
theorem snocT_rp {k : List Key} {v : V} {d : PyData} (h : Rp K F v d) : ∀ {kvs : List (List Key × V)} {ds : Kvs}, RpTv K F kvs ds → RpTv K F (kvs ++ [(k, v)]) (ds ++ [(.tuple (k.map keyD), d)])
  | _, _, .nil => .cons h .nil
  | _, _, .cons h' r => .cons h' (snocT_rp h r)
theorem putT_rp {k : List Key} {v : V} {d : PyData} (h : Rp K F v d) {kvs : List (List Key × V)} {ds : Kvs} (r : RpTv K F kvs ds) : RpTv K F (putK kvs k v) (putTD ds k d) := by
  unfold putK putTD
  rw [valV_any]
  rcases lookT_rp k r with ⟨e1, e2⟩ | ⟨v', d', e1, e2, _⟩
  · rw [e1, e2]
    exact snocT_rp h r
  · rw [e1, e2]
    exact putAllT_rp k h r
theorem putT_nodup (k : List Key) (v : V) {kvs : List (List Key × V)} (h : (kvs.map (·.1)).Nodup) : ((putK kvs k v).map (·.1)).Nodup := by
  unfold putK
  rw [valV_any]
  cases e : valV kvs k with
  | some x =>
    simp only [Option.isSome_some, if_true]
    rw [List.map_map]
    have : ((fun kv : List Key × V => kv.1) ∘ fun kv => if kv.1 = k then (kv.1, v) else kv) = fun kv => kv.1 := by
      funext kv
      show (if kv.1 = k then (kv.1, v) else kv).1 = kv.1
      split <;> rfl
    rw [this]
    exact h
  | none =>
    simp only [Option.isSome_none, Bool.false_eq_true, if_false]
    rw [List.map_append]
    refine List.nodup_append.mpr ⟨h, by simp, fun x hx y hy => ?_⟩
    have : y = k := by simpa using hy
    subst this
    intro z
    subst z
    obtain ⟨kv, hm, rfl⟩ := List.mem_map.mp hx
    have q : (kvs.any fun p => decide (p.1 = kv.1)) = true := List.any_eq_true.mpr ⟨kv, hm, by simp⟩
    rw [valV_any, e] at q
    cases q
theorem tv_len : ∀ {kvs : List (List Key × V)} {ds : Kvs}, RpTv K F kvs ds → kvs.length = ds.length
  | _, _, .nil => rfl
  | _, _, .cons _ r => by rw [List.length_cons, List.length_cons, tv_len r]
/-- keys of tuples, one at least -/
def isT (ds : Kvs) : Bool := !ds.isEmpty && ds.all fun p => (keyTD p.1).isSome
theorem keyD_notT (k : Key) : keyTD (keyD k) = none := by cases k <;> rfl
theorem kv_notT {kvs : List (Key × V)} {ds : Kvs} (r : RpKv K F kvs ds) (h : isT ds = true) : False := by
  cases r with
  | nil => cases h
  | cons h' r =>
    unfold isT at h
    simp [keyD_notT] at h
theorem Rp.dictT_inv {v : V} {ds : Kvs} (h : Rp K F v (.dict ds)) (hk : isT ds = true) : ∃ a kvs, v = .ref a ∧ F a = some (.dT kvs) ∧ (kvs.map (·.1)).Nodup ∧ RpTv K F kvs ds := by
  cases h with
  | dT h1 h2 h3 => exact ⟨_, _, rfl, h1, h2, h3⟩
  | dK h1 h2 h3 => exact (kv_notT h3 hk).elim
theorem rp_kVs {us : List V} {k : List Key} (h : RpAll K F us (k.map keyD)) : us = k.map kV := by
  induction k generalizing us with
  | nil =>
    cases h
    rfl
  | cons x k ih =>
    cases h with
    | cons h1 h2 => rw [h1.kV_inv, ih h2, List.map_cons]
end
section
variable {X : Cx} {st : Stmt} {e : Expr}
/-- d.get((a, ..), n) of a dict to read -/
def dGetT (md : DM) (ms : AM) (n : Int) : DM := fun env => bnd (md env) fun d => bnd (ms env) fun ds => lift (match d with
  | .dict kvs => match keysOf ds with
    | some k => if isT kvs = true ∧ ds.length ≤ lim then (match lookT kvs k with
      | some x => some x
      | none => some (.int n)) else none
    | none => none
  | _ => none)
theorem de_getT {md : DM} {ms : AM} {n : Int} (h : PE X e (tDGet2 (rdE X.K md) (tTup (rdA X.K ms)) (tC (.int n)))) : DE X e (dGetT md ms n) := h.imp fun σ H Q ⟨F, B, W, env, m, d, n', rl, e, k⟩ => by
  obtain ⟨x, n1, e1, e⟩ := bnd_some e
  obtain ⟨ds, n2, e2, e⟩ := bnd_some e
  obtain ⟨e3, rfl⟩ := lift_some e
  refine ⟨F, B, W, env, m, x, n1, rl, e1, fun v1 F1 H1 g1 rl1 p1 => ?_⟩
  cases x with
  | dict kvs =>
    cases hk : keysOf ds with
    | none =>
      simp only [hk] at e3
      cases e3
    | some ks =>
      simp only [hk] at e3
      by_cases c : isT kvs = true ∧ ds.length ≤ lim
      · rw [if_pos c] at e3
        obtain ⟨a, kvs', rfl, ha, hn, hr⟩ := p1.dictT_inv c.1
        refine ⟨a, rfl, .inr ⟨kvs', .inl (rl1.zn.ff _ _ ha)⟩, ?_⟩
        refine ⟨F1, B, W, env, n1, ds, _, rl1, e2, fun vs F2 H2 g2 rl2 p2 => ⟨by rw [p2.len]; exact lim_le c.2, fun p hp => ?_⟩⟩
        have hv : vs = ks.map kV := by
          rw [keysOf_some hk] at p2
          exact rp_kVs p2
        subst hv
        have gr : Gr F2 H2 (upd F2 p (.tup (ks.map kV))) (upd H2 p (.tup (ks.map kV))) := .new rl2.zn.ff hp
        have ha2 : (upd H2 p (.tup (ks.map kV))) a = some (.dT kvs') := gr.h _ _ (rl2.zn.ff _ _ (g2.f _ _ ha))
        refine ⟨valV kvs' ks, .t ha2 upd_same, ?_⟩
        have rl3 := rl2.gr gr
        have g3 := (g1.trans g2).trans (.of gr)
        rcases lookT_rp ks hr with ⟨q1, q2⟩ | ⟨v', d', q1, q2, q3⟩
        · rw [q2] at e3
          cases e3
          rw [q1]
          exact k _ _ _ g3 rl3 (.int n)
        · rw [q2] at e3
          cases e3
          rw [q1]
          exact k _ _ _ g3 rl3 ((q3.mono g2.f).mono gr.f)
      · rw [if_neg c] at e3
        cases e3
  | _ => cases e3
/-- x = {}: to be a dict with keys of tuples, one's own -/
def sNewT (i : Nat) : SM := fun env => ret (.nx (env.set i (some (.dct [(.none, .none)]))))
theorem ds_newT {i : Nat} (h : PS X st (tAsg tDNewT (gName i))) : DS X st (sNewT i) := h.imp fun D σ H ⟨F, B, W, env, n, r, n', rl, e, k⟩ => by
  obtain ⟨rfl, rfl⟩ := ret_some e
  intro q hq
  have gr : Gr F H F (upd H q (.dT [])) := .mine rl.zn.ff hq
  exact k _ F _ (.refl _) ((rl.gr gr).setOwn i ⟨q, rfl, same_none rl.zn.ff hq, ⟨same_none rl.zn.bb hq, rl.wo.ne hq⟩, .inr ⟨[], [], rfl, upd_same, by simp, .nil⟩⟩ (fresh_ne rl hq i))
/-- one's own dict with keys of tuples -/
def getT (env : DL.Env) (i : Nat) : Option Kvs := match env[i]? with
  | some (some (.dct ((.none, .none) :: ds))) => some ds
  | _ => none
theorem getT_some {env : DL.Env} {i : Nat} {ds : Kvs} (h : getT env i = some ds) : env[i]? = some (some (.dct ((.none, .none) :: ds))) := by
  unfold getT at h
  split at h
  · cases h; assumption
  · cases h
/-- k = (a, ..); x[k] = x.get(k, 0) + 1 -/
def sKeyInc (i j : Nat) (ms : AM) : SM := fun env => bnd (ms env) fun ds => match keysOf ds, getT env i with
  | some k, some kvs => if i ≠ j ∧ j < env.length ∧ ds.length ≤ lim ∧ kvs.length < lim then
      (match lookT kvs k with
        | none => ret (.nx ((env.set j (some (.val (.tuple ds)))).set i (some (.dct ((.none, .none) :: putTD kvs k (.int 1))))))
        | some (.int c) => ret (.nx ((env.set j (some (.val (.tuple ds)))).set i (some (.dct ((.none, .none) :: putTD kvs k (.int (c + 1)))))))
        | _ => fail)
    else fail
  | _, _ => fail
abbrev tKeyInc (K : PySem.W.Frag) (i j : Nat) (ms : AM) : TS := tSeq (tAsg (tTup (rdA K ms)) (gName j)) (sDPut (tVar i) (tVar j) (tOp (rI0 fun i j => .int (i + j)) (tDGet2 (tVar i) (tVar j) (tC (.int 0))) (tC (.int 1))))
theorem rd_keyInc {K : PySem.W.Frag} {i j : Nat} {ms : AM} {D : Ends} {σ : L2.St} {H : Hp} (h : rdS K (sKeyInc i j ms) D σ H) : tKeyInc K i j ms D σ H := by
  obtain ⟨F, B, W, env, n, r, n', rl, e, k⟩ := h
  obtain ⟨ds, n1, e1, e⟩ := bnd_some e
  cases hk : keysOf ds with
  | none =>
    simp only [hk, fail] at e
    cases e
  | some ks =>
    cases ho : getT env i with
    | none =>
      simp only [hk, ho, fail] at e
      cases e
    | some kvs =>
      simp only [hk, ho] at e
      · by_cases c : i ≠ j ∧ j < env.length ∧ ds.length ≤ lim ∧ kvs.length < lim
        · rw [if_pos c] at e
          obtain ⟨c1, c2, c3, c4⟩ := c
          -- what is counted
          have hcnt : ∃ m : Int, (∀ {F : Hp} {xs : List (List Key × V)}, RpTv K F xs kvs → (valV xs ks).getD (.int 0) = .int m) ∧ ret (Fl.nx ((env.set j (some (.val (.tuple ds)))).set i (some (.dct ((.none, .none) :: putTD kvs ks (.int (m + 1))))))) n1 = some (r, n') := by
            cases hl : lookT kvs ks with
            | none =>
              simp only [hl] at e
              refine ⟨0, fun r => ?_, e⟩
              rcases lookT_rp ks r with ⟨q1, q2⟩ | ⟨v', d', q1, q2, q3⟩
              · rw [q1]
                rfl
              · rw [hl] at q2
                cases q2
            | some d0 =>
              cases d0 with
              | int c0 =>
                simp only [hl] at e
                refine ⟨c0, fun r => ?_, e⟩
                rcases lookT_rp ks r with ⟨q1, q2⟩ | ⟨v', d', q1, q2, q3⟩
                · rw [hl] at q2
                  cases q2
                · rw [hl] at q2
                  cases q2
                  rw [q1]
                  exact q3.int_inv
              | _ =>
                simp only [hl, fail] at e
                cases e
          obtain ⟨m, hm, e⟩ := hcnt
          obtain ⟨rfl, rfl⟩ := ret_some e
          refine ⟨F, B, W, env, n, ds, _, rl, e1, fun vs F1 H1 g1 rl1 p => ⟨by rw [p.len]; exact lim_le c3, fun q hq => ?_⟩⟩
          have hv : vs = ks.map kV := by
            have p' := p
            rw [keysOf_some hk] at p'
            exact rp_kVs p'
          have gr : Gr F1 H1 (upd F1 q (.tup vs)) (upd H1 q (.tup vs)) := .new rl1.zn.ff hq
          have rl2 := (rl1.gr gr).set j (.tup (.of upd_same) (p.mono gr.f) : Rp K (upd F1 q (.tup vs)) (.ref q) (.tuple ds))
          have he : (env.set j (some (.val (.tuple ds))))[i]? = some (some (.dct ((.none, .none) :: kvs))) := by
            rw [List.getElem?_set_ne (Ne.symm c1)]
            exact getT_some ho
          obtain ⟨v, h1, a, rfl, fa, _, hH⟩ := rl2.sl i _ he
          have hj : (σ.set j (some (V.ref q)))[j]? = some (some (.ref q)) := List.getElem?_set_self (by rw [← rl.le]; exact c2)
          rcases hH with ⟨xs, _, _, h4⟩ | ⟨xs, ks2, ek, h2, h3, h4⟩
          · have := kv_keys h4 _ List.mem_cons_self
            cases this
          · cases ek
            have hq2 : (upd H1 q (.tup vs)) q = some (.tup (ks.map kV)) := by rw [upd_same, hv]
            show sDPut (tVar i) (tVar j) (tOp (rI0 fun i j => V.int (i + j)) (tDGet2 (tVar i) (tVar j) (tC (V.int 0))) (tC (V.int 1))) D (σ.set j (some (V.ref q))) (upd H1 q (.tup vs))
            refine ⟨_, h1, a, rfl, .inr ⟨xs, .inl h2⟩, _, hj, valV xs ks, .t h2 hq2, ?_⟩
            rw [hm h4]
            refine ⟨m, 1, rfl, rfl, _, h1, _, hj, a, _, rfl, .t h2 hq2 (by rw [tv_len h4]; exact lim_lt c4), ?_⟩
            exact k _ (upd F1 q (.tup vs)) _ (g1.f.trans gr.f) (rl2.updDct he h1 (.inr ⟨_, _, rfl, rfl, putT_nodup _ _ h3, putT_rp (.int _) h4⟩))
        · rw [if_neg c] at e
          cases e
theorem dss_keyInc {i j : Nat} {ms : AM} {st st2 : Stmt} (h1 : PS X st (tAsg (tTup (rdA X.K ms)) (gName j))) (h2 : PS X st2 (sDPut (tVar i) (tVar j) (tOp (rI0 fun i j => .int (i + j)) (tDGet2 (tVar i) (tVar j) (tC (.int 0))) (tC (.int 1))))) : DSs X [st, st2] (sKeyInc i j ms) :=
  (pss_cons h1 (pss_one h2)).imp fun _ _ _ h => rd_keyInc h
/-- t < u of tuples of ints -/
def ltTD (x y : PyData) : Option PyData := match x with
  | .tuple a => match y with
    | .tuple b => match intsOf a, intsOf b with
      | some ns, some ms => some (.bool (HT.lexLt ns ms))
      | _, _ => none
    | _ => none
  | _ => none
theorem r_ltT {K : PySem.W.Frag} : R2D K (rLtT K) ltTD := fun F H x y d1 d2 d Q s p1 p2 e k => by
  match d1, d2, e, p1, p2 with
  | .tuple a, .tuple b, e, p1, p2 =>
    unfold ltTD at e
    dsimp only at e
    split at e
    · rename_i ns ms h1 h2
      cases e
      obtain ⟨u, us, rfl, hu, ru⟩ := p1.tup_inv
      obtain ⟨w, ws, rfl, hw, rw'⟩ := p2.tup_inv
      rw [intsOf_some h1] at ru
      rw [intsOf_some h2] at rw'
      rw [ru.ints_inv] at hu
      rw [rw'.ints_inv] at hw
      exact ⟨u, w, ns, ms, rfl, rfl, sqt_mono s hu, sqt_mono s hw, k _ F H (.refl s) (.bl _)⟩
    · cases e
end
end DL

/-! DL, part r: sorted(range(n), key=lambda k: pairs[k]). -/
namespace DL
open PySem PySem.Spec PyProof.Rows L2 LamX
section
variable {X : Cx} {pins : List (Addr × Obj)} {σ : L2.St} {H : Hp} {s : Shared}
/-- a lambda is made: the maker's table alone is written -/
theorem lam_make3 {c P : Addr} {params : Arguments} {body : Expr} {scope : Scope} {pos : Pos} {E : Value → Shared → Prop} {Q : Value → Shared → Prop} (I : Inv X pins σ H s) (TB : TabB X.base X.mg c P) (hcode : X.env.code = .ref c)
    (hT : TabS H P (X.env.qual ++ "<lambda>")) (hdef : defaultsOf params X.env = ([], [])) (hfree : ∀ y ∈ scope.names, y.2 = .free → ∃ c, X.env.cells.lookup y.1 = some c)
    (h : ∀ (f c' : Addr) (pm ctv : Value) (H1 : Hp) (s' : Shared), Inv X pins σ H1 s' → (∀ b o, H b = some o → b ≠ P → H1 b = some o) → TabS H1 P (X.env.qual ++ "<lambda>") →
      s'.heap.get? f = some (PySem.W.kla_obj "<lambda>" (X.env.qual ++ "<lambda>") params body scope (cloFrom X.env.cells scope.names []) pm c' ctv) → s'.heap.CodeRec (.ref c') (X.env.qual ++ "<lambda>") → (∀ b o, b ≠ P → s.heap.get? b = some o → s'.heap.get? b = some o) → Q (.ref f) s') :
    wpAny (model X.prog X.w) X.A (eval (.Lambda params body scope pos) X.env) Q E s := by
  obtain ⟨ps, hP, ht, ha⟩ := hT
  refine PySem.W.kla_eval hdef ?_
  have bP : s.heap.BuiltinsAt X.mg P := TB.bm.keeps I.bk
  have hP' : s.heap.get? P = some { cls := .none, data := .fields ps } := I.hok P _ hP
  cases hc : codeAmong pos ps.toList with
  | none =>
    refine PySem.W.kla_makeFunction (mg := X.mg) (c := c) (P := P) (ps := ps) (closure_ok hfree) I.ok.glob (I.mod.glob.keeps I.bk) hcode (TB.code.keeps I.bk) hP' ht hc TB.gP bP fun c' ctv h' tk hx hge hlt hrec htb => ?_
    obtain ⟨c2, oc, vs, t, e2, hoc, hd, hv⟩ := id hrec
    cases e2
    have nC : H c' = none := I.hok.fresh hge
    have I1 := inv_table (t' := tk) (more := #[rawInt pos.line, rawInt pos.col, .ref c']) (h' := h'.push (PySem.W.kla_obj "<lambda>" (X.env.qual ++ "<lambda>") params body scope (cloFrom X.env.cells scope.names []) ((X.mg "__name__").getD .none) c' ctv)) I hP
      (fun b o hb e => Heap.get?_push_of_some _ (hx b o hb e)) (Heap.get?_push_of_some _ htb) hge ⟨oc, vs, t, Heap.get?_push_of_some _ hoc, hd, hv⟩
    have hE : ∀ b o, H b = some o → b ≠ P → upd (upd H P (.tbl (ps ++ #[rawInt pos.line, rawInt pos.col, .ref c']))) c' (CodeO c' (X.env.qual ++ "<lambda>")) b = some o := fun b o e n => by
      rw [upd_ne (ne_of_none e nC), upd_ne n]
      exact e
    have eL : (ps ++ #[rawInt pos.line, rawInt pos.col, .ref c']).toList = ps.toList ++ [rawInt pos.line, rawInt pos.col, .ref c'] := by simp
    refine h h'.objs.size c' ((X.mg "__name__").getD .none) ctv _ _ I1 hE ⟨_, by rw [upd_ne (ne_of_none hP nC), upd_same], by rw [eL]; exact PySem.TriplesOk_snoc _ _ _ _ ht, fun p' cv hcv => ?_⟩ (Heap.get?_push_size _ rfl) ⟨c', oc, vs, t, rfl, Heap.get?_push_of_some _ hoc, hd, hv⟩ fun b o hb e => Heap.get?_push_of_some _ (hx b o hb e)
    rw [eL] at hcv
    rcases among_app _ ht hcv with z | z
    · obtain ⟨c0, e1, e2⟩ := ha p' cv z
      refine ⟨c0, e1, hE _ _ e2 fun y => ?_⟩
      rw [y, hP] at e2
      exact codeO_ne ps (Option.some.inj e2).symm
    · exact ⟨c', z, upd_same⟩
  | some cv =>
    obtain ⟨c', e, hco⟩ := ha pos cv hc
    subst e
    refine PySem.W.kla_makeFunctionHit (mg := X.mg) (c := c) (P := P) (ps := ps) (closure_ok hfree) I.ok.glob (I.mod.glob.keeps I.bk) hcode (TB.code.keeps I.bk) hP' ht hc bP fun ctv h' tk hx hsz => ?_
    have I1 : Inv X pins σ H { s with heap := h'.push (PySem.W.kla_obj "<lambda>" (X.env.qual ++ "<lambda>") params body scope (cloFrom X.env.cells scope.names []) ((X.mg "__name__").getD .none) c' ctv), toks := tk } := I.kept fun b o e => Heap.get?_push_of_some _ (hx b o e)
    obtain ⟨⟨oc, vs, t, e1, e2, e3⟩, _⟩ := I.hok c' _ hco
    exact h h'.objs.size c' ((X.mg "__name__").getD .none) ctv H _ I1 (fun _ _ e _ => e) ⟨ps, hP, ht, ha⟩ (Heap.get?_push_size _ rfl) ⟨c', oc, vs, t, rfl, Heap.get?_push_of_some _ (hx _ _ e1), e2, e3⟩ fun b o _ e => Heap.get?_push_of_some _ (hx b o e)
end
end DL
namespace DL
open PySem PySem.Spec PyProof.Rows L2 LamX
/-- the names of lambda b: a[b], a captured -/
structure LamSub (scope : Scope) (a b : Str) : Prop where
  kind : scope.kind = .function
  co : scope.isCoroutine = false
  gen : scope.isGenerator = false
  nocell : ∀ y ∈ scope.names, y.2 ≠ .cell
  fr : scope.names.lookup a = some .free
  par : scope.names.lookup b = some .local
  free : ∀ y ∈ scope.names, y.2 = .free → y.1 = a
theorem lam_turn {P : Program} {w : World} {A : Around} {E : Value → Shared → Prop} {s : Shared} {f c' c p : Addr} {q a b : Str} {params : Arguments} {scope : Scope} {clos : List (Str × Addr)} {pm ctv u : Value} {its : List Value} {k : Nat} {t : Tok} {d : PyData} {p1 p2 p3 : Pos}
    (L : LamSub scope a b) (hroom : A.depth < recursionLimit) (hlim : s.heap.NoLimit) (hf : s.heap.get? f = some (PySem.W.kla_obj "<lambda>" q params (.Subscript (.Name a p1) (.Name b p2) p3) scope clos pm c' ctv)) (hrec : s.heap.CodeRec (.ref c') q)
    (hbind : bindArgs (PySem.W.kla_fn "<lambda>" q params (.Subscript (.Name a p1) (.Name b p2) p3) scope clos pm (.ref c') ctv) ⟨[.int k t], []⟩ = pure [(b, .int k t)])
    (hc : clos.lookup a = some c) (hcell : s.heap.IsCell c (some (.ref p))) (ht : s.heap.IsTuple p its.toArray) (hz : its.length ≤ sizeLine) (hu : its[k]? = some u) (hd : Reads s.heap u d [])
    (hda : (a == ("__debug__" : Str)) = false) (hca : (a == ("__classdict__" : Str)) = false) (hdb : (b == ("__debug__" : Str)) = false) :
    wpAny (model P w) A (call (.ref f) [.int k t]) (PySem.W.KeyPure d s) E s := by
  have rc : codeAny (model P w) A (.call (.ref f) ⟨[.int k t], []⟩) (fun r s' => ∃ v, r = .ok (.ret v) ∧ PySem.W.KeyPure d s v s') s := by
    refine PySem.W.kla_callFunE hroom hf rfl L.co L.gen rfl hrec ?_
    rw [hbind]
    refine wpAny_pure (wpAny_newFunctionEnv L.nocell (fun y hy => ?_) (fun h₁ hns hsb => ⟨hlim.fresh _ hsb, ?_⟩) L.kind)
    · rw [List.mem_singleton.mp hy]
      exact L.par
    show codeAny _ _ (.expr _ (PySem.W.envX q scope s.heap.objs.size f (.ref c') clos)) _ _
    have kp : ∀ b o, s.heap.get? b = some o → h₁.get? b = some o := fun b o e => hsb.extBut b o (Nat.ne_of_lt (Heap.lt_size e)) (Heap.get?_push_of_some _ e)
    refine PySem.W.kla_codeExpr (Subscript_ ?_)
    refine wpAny_Name (wpAny_loadName_free (c := c) (v := .ref p) L.kind L.fr hc ?_ ?_ hca) hda
    · obtain ⟨o, e, hd⟩ := hcell
      exact ⟨o, kp _ _ e, hd⟩
    refine wpAny_Name (wpAny_loadName_local (v := .int k t) L.kind L.par hns ?_ ?_) hdb
    · simp [List.lookup]
    have ht' : h₁.IsTuple p its.toArray := by
      obtain ⟨o, e, r⟩ := ht
      exact ⟨o, kp _ _ e, r⟩
    have hk : k < its.length := (List.getElem?_eq_some_iff.mp hu).1
    have hn := line63
    have fin : ∃ v, (Except.ok (Flow.ret u) : Result) = .ok (.ret v) ∧ PySem.W.KeyPure d s v { s with heap := h₁, toks := s.toks + [(b, Value.int k t)].length } := ⟨u, rfl, h₁, _, rfl, kp, PyProof.Rows.Reads.keeps kp hd⟩
    refine item_tupleL (j := k) (x := u) ht' (by omega) (by omega) ?_ hu fin (by intros; rfl) (fun _ => rfl)
    exact seqIndex_of (by omega) (by omega)
  refine wpAny_call (codeAny_mono rc fun r s' hq => ?_)
  obtain ⟨v, rfl, hv⟩ := hq
  exact hv
end DL
namespace DL
open PySem PySem.Spec PyProof.Rows L2 LamX
/-- by pairs, ascending -/
def leIx (ps : List (Int × Int)) (i j : Nat) : Bool := !decide ((ps.getD j (0, 0)).1 < (ps.getD i (0, 0)).1 ∨ ((ps.getD j (0, 0)).1 = (ps.getD i (0, 0)).1 ∧ (ps.getD j (0, 0)).2 < (ps.getD i (0, 0)).2))
/-- the places, by the pairs that stand there -/
def sortIx (ps : List (Int × Int)) : List Nat := (List.range ps.length).mergeSort (leIx ps)
theorem leIx_data (ps : List (Int × Int)) : PySem.W.dataLe false (fun i : Nat => twoD (ps.getD i (0, 0))) = leIx ps := by
  rw [PySem.W.dataLe_eq]
  funext i j
  show (!PySem.W.dataLt (twoD (ps.getD j (0, 0))) (twoD (ps.getD i (0, 0)))) = _
  unfold twoD leIx
  rw [PySem.W.dataLt_ii]
def tSortLam (K : PySem.W.Frag) (P : Addr) (q : Str) (i : Nat) (te : L2.St → Hp → (Int → Int → Hp → Prop) → Prop) : TE := fun σ H Q => te σ H fun lo hi H1 => TabS H1 P q ∧
  ∃ (F : Hp) (p : Addr) (xs : List V) (ps : List (Int × Int)), σ[i]? = some (some (.ref p)) ∧ Same F H1 ∧ F P = none ∧ SqT K F p xs ∧ RpAll K F xs (ps.map twoD) ∧ lo = 0 ∧ hi = ps.length ∧ ps.length ≤ 1000000 ∧
  ∀ H2 r, (∀ b o, H1 b = some o → b ≠ P → H2 b = some o) → TabS H2 P q → H2 r = none → Q (.ref r) (upd H2 r (.lst ((sortIx ps).map fun k : Nat => V.int (k : Int))))
theorem vals_rel {ns : List Nat} {out : List Value} (h : PySem.W.EachIs (fun v (k : Nat) => ∃ t, v = Value.int (k : Int) t) out ns) : L2.Vals (ns.map fun k : Nat => V.int (k : Int)) out := by
  induction h with
  | nil => exact .nil
  | cons h _ ih => exact .cons h ih
theorem pe_sortLam {X : Cx} {c P : Addr} {a b : Str} {i : Nat} {e : Expr} {te : L2.St → Hp → (Int → Int → Hp → Prop) → Prop} {params : Arguments} {scope : Scope} {p1 p2 p3 p4 p5 p6 p7 : Pos}
    (hcal : X.calm = true) (hg : Gl X "sorted") (hm : X.mg "sorted" = none) (he : PRg X e te) (TB : TabB X.base X.mg c P) (hcode : X.env.code = .ref c) (hdef : defaultsOf params X.env = ([], []))
    (L : LamSub scope a b) (hca : X.env.scope.names.lookup a = some .cell) (hN : X.N[i]? = some a)
    (hbind : ∀ (q : Str) (cl : List (Str × Addr)) (pm cv ctv : Value) (k : Int) (t : Tok), bindArgs (PySem.W.kla_fn "<lambda>" q params (.Subscript (.Name a p2) (.Name b p3) p4) scope cl pm cv ctv) ⟨[.int k t], []⟩ = pure [(b, .int k t)])
    (hr : Room 3 X.A) (hd1 : (a == ("__debug__" : Str)) = false) (hd2 : (a == ("__classdict__" : Str)) = false) (hd3 : (b == ("__debug__" : Str)) = false)
    (na : backTo p7 (starEach [e] X.env) = (false, eval e X.env) :: backTo p7 (starEach [] X.env) := by rfl) (hpl : (backTo p7 (starEach [e] X.env)).any (·.1) = false := by rfl) :
    PE X (.Call (.Name "sorted" p1) [e] [⟨some "key", .Lambda params (.Subscript (.Name a p2) (.Name b p3) p4) scope p5, p6⟩] p7) (tSortLam X.K P (X.env.qual ++ "<lambda>") i te) := by
  refine ⟨fun pins s σ H Q I h => ?_⟩
  refine wpAny_Call_Name_kw (ld_blt I hg hm boot_sorted ?_)
  refine PyProof.Rows.callWith_kw ?_ na hpl (by rfl) (by rfl)
  rw [na]
  refine Calls.spliced_cons (thn (he pins s σ H _ I h) fun v s1 ⟨r, lo, hi, tr, ur, vr, H1, ev, hrg, I1, hT, F, p, xs, ps, hσ, sm, hFP, hS, hR, hlo, hhi, hps, q⟩ => ?_)
  subst ev hlo hhi
  refine Calls.spliced_nil ?_
  have hfree : ∀ y ∈ scope.names, y.2 = .free → ∃ c, X.env.cells.lookup y.1 = some c := fun y hy e => by
    rw [L.free y hy e]
    exact I.ok.has _ (.inl hca)
  refine kwAll_cons (lam_make3 I1 TB hcode hT hdef hfree fun f c' pm ctv H2 s2 I2 hk hT2 hf hrec hraw => kwAll_nil ?_)
  show wpAny _ _ (call (.builtin "sorted") [.ref r] [(Str.ofString "key", .ref f)]) _ _ s2
  -- the tuple of pairs, captured
  have sm2 : Same F H2 := fun x o e => hk x o (sm x o e) fun z => by
    rw [z, hFP] at e
    cases e
  obtain ⟨its, rv, htup, hitz⟩ := I2.tuple (sqt_mono sm2 hS)
  obtain ⟨m, hn, hl⟩ := I2.loc
  obtain ⟨u, ru, hlook⟩ := hl i a (.ref p) hN hσ (.inr (.inl hca))
  obtain rfl : u = Value.ref p := ru
  obtain ⟨cc, hcc, hcell⟩ : ∃ cc, X.env.cells.lookup a = some cc ∧ s2.heap.IsCell cc (some (.ref p)) := by
    rcases hlook with ⟨hk', _⟩ | ⟨_, cc, e1, e2⟩
    · have hk' : X.env.scope.names.lookup a = some .local := hk'
      rw [hca] at hk'
      cases hk'
    · exact ⟨cc, e1, e2⟩
  have hclo : (cloFrom X.env.cells scope.names []).lookup a = some cc := NdefX.clo_has hfree (PySem.mem_of_lookup L.fr) hcc
  have hlen : its.length = ps.length := by
    have e1 := rv.length
    have e2 := hR.len
    rw [List.length_map] at e2
    omega
  have hpair : ∀ k, k < ps.length → ∃ u, its[k]? = some u ∧ Reads s2.heap u (twoD (ps.getD k (0, 0))) [] := fun k hk => by
    have hk' : k < xs.length := by rw [rv.length, hlen]; exact hk
    obtain ⟨u, hu, ru⟩ := rv.get (List.getElem?_eq_getElem hk')
    obtain ⟨d, hd, rd⟩ := hR.get' (List.getElem?_eq_getElem hk')
    rw [List.getElem?_map, List.getElem?_eq_getElem hk] at hd
    cases hd
    have e0 : ps.getD k (0, 0) = ps[k] := by rw [List.getD_eq_getElem?_getD, List.getElem?_eq_getElem hk]; rfl
    obtain ⟨_, t, o, t1, t2, n, e1, e2, e3, e4⟩ := pairAt_of I2 sm2 rd
    rw [e1] at ru
    obtain rfl : u = Value.ref t := ru
    refine ⟨_, hu, ?_⟩
    rw [e0]
    exact .tuple e2 e3 e4 (.cons (as := []) (bs := []) (.int _ _) (.cons (as := []) (bs := []) (.int _ _) .nil))
  have hrg2 : IsRange s2.heap r 0 ps.length 1 tr ur vr := by
    refine hraw _ _ (fun z => ?_) hrg
    obtain ⟨ps', hP', _⟩ := hT
    have e1 := I1.hok P _ hP'
    rw [← z] at e1
    have e2 : s1.heap.get? r = some { cls := .none, data := .fields ps' } := e1
    rw [hrg] at e2
    cases e2
  have hh : X.A.handled = none := I.ok.hd hcal
  refine PyProof.Rows.call_function_entry_kw kind_sorted plain_sorted entry_sorted (PyProof.Rows.ksk_s1 _ _) ?_
  unfold Builtin.«sorted»
  refine wpAny_bind (m := checkCount "sorted" 1 1 _) (wpAny_pure ?_)
  refine wpAny_bind (collect_range (n := ps.length) (A := X.A.in1) (by rw [Around.in1_handled]; exact hh) hrg2 (small_one (by omega) (by omega) (by omega) (by omega)) (by rw [rangeSize_nat]; omega) (by omega) fun h' tk acc hk' hit => ?_)
  have hacc : acc.toList.length = ps.length := by rw [Array.length_toList]; exact hit.1
  refine wpAny_bind (wpAny_newList ?_ (by rw [hacc, sizeLine_eq]; omega))
  have hoL : (h'.push (seqObj "list" acc.toList.toArray 0)).get? h'.objs.size = some (seqObj "list" acc.toList.toArray 0) := Heap.get?_push_size _ rfl
  have each : ∀ n, n ≤ ps.length → PySem.W.EachIs (fun v (k : Nat) => ∃ t, v = Value.int (k : Int) t) (acc.toList.take n) (List.range n) := by
    intro n
    induction n with
    | zero => exact fun _ => .nil
    | succ n ih =>
      intro hn
      have hlt : n < acc.toList.length := by omega
      obtain ⟨t, et⟩ := hit.2 n acc.toList[n] (by rw [← Array.getElem?_toList, List.getElem?_eq_getElem hlt])
      rw [List.take_succ, List.getElem?_eq_getElem hlt, List.range_succ]
      exact PySem.W.each_snoc ⟨t, by rw [et]; congr 1; omega⟩ (ih (by omega))
  have eacc := each ps.length (Nat.le_refl _)
  rw [List.take_of_length_le (by omega)] at eacc
  have nT : ∀ (h : Heap), PySem.W.KeepsBut h'.objs.size (h'.push (seqObj "list" acc.toList.toArray 0)) h → ∀ b o, s2.heap.get? b = some o → h.get? b = some o := fun h kp b o e => by
    have e1 := hk' b o e
    exact kp b o (Nat.ne_of_lt (Heap.lt_size e1)) (Heap.get?_push_of_some _ e1)
  refine wpAny_bind (wpAny_holding (PySem.W.list_sort_key_data (b := false) (s := { s2 with heap := h'.push (seqObj "list" acc.toList.toArray 0), toks := tk }) (bs := List.range ps.length) (R := fun v (k : Nat) => ∃ t, v = Value.int (k : Int) t) (fun k : Nat => twoD (ps.getD k (0, 0))) hoL eacc
    (PySem.W.AllAlike.of fun b b' => by simp [twoD, PySem.W.alike, PySem.W.alikeAll]) (PySem.W.Sortable.tuples fun b => ⟨_, _, rfl⟩) (by rw [List.length_range, sizeLine_eq]; omega) (fun x _ => ?_) (PyProof.Rows.ksk_l1 _ _) (PyProof.Rows.ksk_t1 _ _) (fun v k hv hkr h tk' kp => ?_) fun out c2 h3 tk3 kp hD hol eo => ?_))
  · have : (twoD (ps.getD x (0, 0))).depth = 1 := by simp [twoD, PyData.depth, PyData.depthAll]
    rw [this, Around.in1_units]
    have := hr.units
    omega
  · obtain ⟨t, rfl⟩ := hv
    obtain ⟨u, hu, hrd⟩ := hpair k (List.mem_range.mp hkr)
    have up := nT h kp
    obtain ⟨oc, ec, dc⟩ := hcell
    obtain ⟨c1, o1, vs1, t1, e1, e2, e3, e4⟩ := hrec
    cases e1
    exact lam_turn (s := { s2 with heap := h, toks := tk' }) L hr.in1.in1.depth (I2.nolimit.keeps up) (up _ _ hf) ⟨_, o1, vs1, t1, rfl, up _ _ e2, e3, e4⟩ (hbind _ _ _ _ _ _ _) hclo ⟨oc, up _ _ ec, dc⟩
      (by obtain ⟨o, eo, r⟩ := htup; exact ⟨o, up _ _ eo, r⟩) (by rw [hlen, sizeLine_eq]; omega) hu (PyProof.Rows.Reads.keeps up hrd) hd1 hd2 hd3
  · rw [leIx_data] at eo
    have up : ∀ b o, h'.get? b = some o → h3.get? b = some o := fun b o e => kp b o (Nat.ne_of_lt (Heap.lt_size e)) (Heap.get?_push_of_some _ e)
    have I3 : L2.Inv X pins σ H2 { s2 with heap := h', toks := tk } := I2.kept hk'
    have hv : L2.Vals ((sortIx ps).map fun k : Nat => V.int (k : Int)) out := vals_rel eo
    have J := I3.laid (t' := tk3) (a := h'.objs.size) (o := .lst ((sortIx ps).map fun k : Nat => V.int (k : Int))) (h' := h3) up (Nat.le_refl _) ⟨by rw [hv.length, hol, List.length_range, sizeLine_eq]; omega, out, c2, hv, hD⟩
    exact wpAny_pure ⟨_, rfl, .ref h'.objs.size, _, J, rfl, q H2 h'.objs.size hk hT2 (I3.hok.fresh (Nat.le_refl _))⟩
end DL

/-! DL, part tb: a def that makes a lambda: the table of code objects is handed on to it. -/
namespace DL
open PySem PySem.Spec PyProof.Rows L2 LamX
section
variable {K : PySem.W.Frag} {F B H H' : Hp} {σ : L2.St} {env : DL.Env} {n : Nat}
theorem Rl.tab {w : Wl} {P : Addr} (r : Rl K F B (some w) σ H env n) (hk : ∀ b o, H b = some o → b ≠ P → H' b = some o) (hc : w.ch P) (hn : w.now H' n) : Rl K F B (some w) σ H' env n := by
  obtain ⟨q1, q2, q3⟩ := r.wo
  refine ⟨⟨fun b o e => hk b o (r.zn.ff b o e) fun z => ?_, fun b o e => hk b o (r.zn.bb b o e) fun z => ?_, r.zn.dj⟩, ⟨hn, q2, q3⟩, fun i e he => ?_, r.ap, r.le⟩
  · rw [z, (q3 P hc).1] at e
    cases e
  · rw [z, (q3 P hc).2] at e
    cases e
  · obtain ⟨v, h1, h2⟩ := r.sl i e he
    refine ⟨v, h1, ?_⟩
    cases e with
    | own ds =>
      obtain ⟨a, xs, e, z1, z2, z3, z4⟩ := h2
      exact ⟨a, xs, e, hk _ _ z1 fun z => z4.2 w rfl (z ▸ hc), z2, z3, z4⟩
    | dct kvs =>
      obtain ⟨a, e, z3, z4, z5⟩ := h2
      have hne : a ≠ P := fun z => z4.2 w rfl (z ▸ hc)
      refine ⟨a, e, z3, z4, ?_⟩
      rcases z5 with ⟨xs, z5, z6⟩ | ⟨xs, ks, ek, z5, z6⟩
      · exact .inl ⟨xs, hk _ _ z5 hne, z6⟩
      · exact .inr ⟨xs, ks, ek, hk _ _ z5 hne, z6⟩
    | _ => exact h2
end
/-! ### such a def -/
def startT (N : Nat) (ds : List PyData) : DL.Env := match ds with
  | [d] => some (.tabv d) :: List.replicate (N - 1) none
  | _ => []
def runT (body : SM) (N : Nat) : List PyData → Option PyData := fun ds => match body (startT N ds) 0 with
  | some (.rt d, _) => some d
  | _ => none
abbrev wT (K : PySem.W.Frag) : Option Wl := some (.tab (tabK K))
def SpT (K : PySem.W.Frag) (f : List PyData → Option PyData) : Sp := fun vs H Q _ => ∃ F B v d r, vs = [v] ∧ Zn F B H ∧ WOk F B H 0 (wT K) ∧ Rp K F v d ∧ f [d] = some r ∧ ∀ v' F' H', Same F F' → Zn F' B H' → WOk F' B H' 0 (wT K) → Rp K F' v' r → Q v' H'
section
variable {P : Program} {w : World} {K : PySem.W.Frag} {mg : Str → Option Value} {base : Heap}
theorem fnT_ok {x qual a : Str} {st : Stmt} {f c : Addr} {fd : FuncData} {N : List Str} {k nn : Nat} {m : SM} (F : Fun K x qual st f fd) (S : FnScope N [a] (defScope st)) (hcode : fd.code = .ref c) (hnn : N.length = nn)
    (h : ∀ (A : Around) (outer : List PySem.Env) (s : Shared) (H : Hp) (E : XK), Room k (A.deeper (envOfC qual (defScope st) s.heap.objs.size f (.ref c))) → DSs (cxOf CX0 P w K mg base N qual (defScope st) f (.ref c) A outer s H E).nox (defBody st) m) :
    FnOk P w K mg base CX0 (k + 1) f fd [a] (SpT K (runT m nn)) := by
  subst hnn
  obtain ⟨oc, od, kV, doc, pm, an, cdv, ct, osl, rfl, lk, hcd⟩ := F.ex
  obtain rfl : cdv = Value.ref c := hcode
  refine fn_of lk hcd S (fun vs H Q E ⟨F0, B, v, d, r, e, _⟩ => by rw [e]; rfl) fun A outer s H vs Q E hr ⟨F0, B, v, d, r, ev, z, wo, rp, e, kk⟩ => ?_
  subst ev
  refine ⟨rdS K m, (h A outer s H E hr).nox, ?_⟩
  unfold runT at e
  split at e
  · rename_i d2 n2 h2
    cases e
    have hN : 1 ≤ N.length := by
      have := congrArg List.length S.pre
      rw [List.length_take] at this
      simp at this
      omega
    have est : L2.start N [v] = some v :: List.replicate (N.length - 1) none := rfl
    rw [est]
    refine ⟨F0, B, wT K, startT N.length [d], 0, _, _, ⟨z, wo, fun i e he => ?_, fun i j e e' u _ h1 _ m1 => ?_, by simp [startT]⟩, h2, fun v' F' H' s z' wo' p => kk v' F' H' s z' ⟨wo'.1, wo'.2.1, wo'.2.2⟩ p⟩
    · cases i with
      | zero =>
        cases he
        exact ⟨v, rfl, rp, rfl⟩
      | succ i =>
        have he : (List.replicate (N.length - 1) (none : Option En))[i]? = some (some e) := he
        rw [List.getElem?_replicate] at he
        split at he <;> cases he
    · exfalso
      cases i with
      | zero =>
        cases h1
        cases m1
      | succ i =>
        have he : (List.replicate (N.length - 1) (none : Option En))[i]? = some (some e) := h1
        rw [List.getElem?_replicate] at he
        split at he <;> cases he
  · cases e
end
/-! ### the call of it -/
def dCallT (f : List PyData → Option PyData) (i : Nat) (m : DM) : DM := fun env => bnd (m env) fun d => match getW env i with
  | some (.draws _) => lift (f [d])
  | _ => fail
theorem de_callT {X : Cx} {e : Expr} {i : Nat} {m : DM} {f : List PyData → Option PyData} {E : XK} (h : PE X e (tCall (SpT X.K f) [] E (tCons (rdE X.K m) tNil))) : DE X e (dCallT f i m) := h.imp fun σ H Q ⟨F, B, W, env, n, d, n', rl, e, kk⟩ => by
  obtain ⟨d0, n1, e1, e⟩ := bnd_some e
  cases hw : getW env i with
  | none =>
    simp only [hw, fail] at e
    cases e
  | some t =>
    cases t with
    | obj _ _ =>
      simp only [hw, fail] at e
      cases e
    | draws ws =>
      simp only [hw] at e
      obtain ⟨e3, rfl⟩ := lift_some e
      obtain ⟨v, h1, w, rfl, ht, rfl, tk⟩ := rl.sl i _ (getW_some hw)
      obtain ⟨wa, wl, wt, rfl⟩ := Wl.tag_draws ht
      have tk : wt = some (tabK X.K) := tk
      subst tk
      refine ⟨F, B, _, env, n, d0, _, rl, e1, fun v F1 H1 g1 rl1 rp => ?_⟩
      obtain ⟨⟨q1, qt⟩, q2, q3⟩ := id rl1.wo
      have hT := qt _ rfl
      obtain ⟨f1, b1⟩ := q3 (tabK X.K).1 (.inr ⟨_, rfl, rfl⟩)
      obtain ⟨fa, ba⟩ := q3 wa (.inl rfl)
      have hne : ∀ x, (Wl.tab (tabK X.K)).ch x ↔ (tabK X.K).1 = x := fun x => Iff.rfl
      refine ⟨F1, restW (Wl.tab (tabK X.K)).ch F1 H1, v, d0, d, rfl, zn_restW rl1.zn.ff, ⟨hT, trivial, fun x c => ⟨?_, restW_in c⟩⟩, rp, e3, fun v' F' H' s z wo p => ?_⟩
      · rw [← (hne x).mp c]
        exact f1
      have keep : ∀ a o, H1 a = some o → a ≠ (tabK X.K).1 → H' a = some o := fun a o ha hn => by
        cases f : F1 a with
        | none => exact z.bb a o (restW_some ha f fun c => hn ((hne a).mp c).symm)
        | some u =>
          have : u = o := by
            have := rl1.zn.ff a u f
            rw [ha] at this
            exact (Option.some.inj this).symm
          subst this
          exact z.ff a _ (s a _ f)
      have stay : ∀ a o, H1 a = some o → F1 a = none → a ≠ (tabK X.K).1 → F' a = none := fun a o ha hf hn => z.dj a o (restW_some ha hf fun c => hn ((hne a).mp c).symm)
      have hnow : (Wl.dr wa wl ws (some (tabK X.K))).now H' n' := ⟨keep _ _ q1 (fun z => by
        obtain ⟨ps, hp, _⟩ := hT
        rw [← z, q1] at hp
        cases hp), fun T e => by
        cases e
        exact wo.1⟩
      have rl2 := rl1.tab (H' := H') keep (.inr ⟨_, rfl, rfl⟩) hnow
      -- the frozen part grows
      refine kk v' F' H' ⟨g1.f.trans s, fun a o ha hn => keep a o (g1.h a o ha hn) fun z => hn _ rfl (.inr ⟨_, rfl, z.symm⟩)⟩ ⟨⟨z.ff, rl2.zn.bb, fun a o hb => ?_⟩, ⟨hnow, Wl.mono (.dr wa wl ws (some (tabK X.K))) s q2, fun x c => ⟨?_, (q3 x c).2⟩⟩, fun j e he => ?_, rl1.ap, rl1.le⟩ p
      · have hn : a ≠ (tabK X.K).1 := fun z => by
          rw [z, b1] at hb
          cases hb
        exact stay a o (rl1.zn.bb a o hb) (rl1.zn.dj a o hb) hn
      · rcases c with rfl | ⟨T, eT, rfl⟩
        · exact stay wa _ q1 fa fun z => by
            obtain ⟨ps, hp, _⟩ := hT
            rw [← z, q1] at hp
            cases hp
        · cases eT
          exact (wo.2.2 _ rfl).1
      · obtain ⟨u, h3, h4⟩ := rl2.sl j e he
        obtain ⟨u', h3', h5⟩ := rl1.sl j e he
        rw [h3] at h3'
        cases h3'
        refine ⟨u, h3, ?_⟩
        cases e with
        | val d => exact Rp.mono s h4
        | own es =>
          obtain ⟨a, xs, e1, z1, z2, z3, z4⟩ := h4
          obtain ⟨a', xs', e2, y1, y2, y3, y4⟩ := h5
          rw [e1] at e2
          cases e2
          have hn : a ≠ (tabK X.K).1 := fun z => z4.2 _ rfl (.inr ⟨_, rfl, z.symm⟩)
          exact ⟨a, xs, e1, z1, z2.mono s, stay _ _ y1 y3 hn, z4⟩
        | dct kvs =>
          obtain ⟨a, e1, z3, z4, z5⟩ := h4
          obtain ⟨a', e2, y3, y4, y5⟩ := h5
          rw [e1] at e2
          cases e2
          have hn : a ≠ (tabK X.K).1 := fun z => z4.2 _ rfl (.inr ⟨_, rfl, z.symm⟩)
          have hf : F' a = none := by
            rcases y5 with ⟨xs, y5, _⟩ | ⟨xs, ks, ek, y5, _⟩ <;> exact stay _ _ y5 y3 hn
          refine ⟨a, e1, hf, z4, ?_⟩
          rcases z5 with ⟨xs, z5, z6, z7⟩ | ⟨xs, ks, ek, z5, z6, z7⟩
          · exact .inl ⟨xs, z5, z6, z7.mono s⟩
          · exact .inr ⟨xs, ks, ek, z5, z6, z7.mono s⟩
        | wdr ws => exact h4
        | scr ns =>
          obtain ⟨a, e, h⟩ := h4
          exact ⟨a, e, s.seq h⟩
        | tabv d => exact ⟨Rp.mono s h4.1, h4.2⟩
/-! ### order = sorted(range(len(pairs)), key=lambda k: pairs[k]) -/
def getB (env : DL.Env) (i : Nat) : Option (List (Int × Int)) := match env[i]? with
  | some (some (.tabv (.tuple ds))) => pairsD ds
  | _ => none
theorem getB_some {env : DL.Env} {i : Nat} {ps : List (Int × Int)} (h : getB env i = some ps) : env[i]? = some (some (.tabv (.tuple (ps.map twoD)))) := by
  unfold getB at h
  split at h
  · rename_i ds hi
    rw [hi, pairsD_some h]
  · cases h
def sLam (i j : Nat) : SM := fun env => bnd (lift (getB env i)) fun ps => if ps.length ≤ 1000000 then ret (.nx ((env.set i (some (.val (.tuple (ps.map twoD))))).set j (some (.val (.list ((sortIx ps).map fun k : Nat => PyData.int (k : Int))))))) else fail
theorem Rl.untab {K : PySem.W.Frag} {F B H : Hp} {W : Option Wl} {σ : L2.St} {env : DL.Env} {n i : Nat} {d : PyData} (r : Rl K F B W σ H env n) (h : env[i]? = some (some (.tabv d))) : Rl K F B W σ H (env.set i (some (.val d))) n := by
  obtain ⟨v, h1, h2, h3⟩ := r.sl i _ h
  have q := r.set i (v := v) h2
  have e : σ.set i (some v) = σ := by
    apply List.ext_getElem?
    intro j
    by_cases hij : i = j
    · subst hij
      rw [List.getElem?_set_self (List.getElem?_eq_some_iff.mp h1).1, h1]
    · rw [List.getElem?_set_ne hij]
  rw [e] at q
  exact q
theorem ds_lam {X : Cx} {st : Stmt} {i j : Nat} (h : PS X st (tAsg (tSortLam X.K (tabK X.K).1 lamQ i (tRg1 (tCB (fun xs H Q => ∃ p ys, xs = [.ref p] ∧ (SqL X.K H p ys ∨ SqT X.K H p ys) ∧ Q (.int ys.length) H) (tCons (tVar i) tNil)))) (gName j)))
    (hq : (tabK X.K).2 = lamQ) : DS X st (sLam i j) := h.imp fun D σ H ⟨F, B, W, env, n, r, n', rl, e, k⟩ => by
  obtain ⟨ps, n1, e1, e4⟩ := bnd_some e
  obtain ⟨e2, rfl⟩ := lift_some e1
  have hi := getB_some e2
  by_cases hz : ps.length ≤ 1000000
  · rw [if_pos hz] at e4
    obtain ⟨rfl, rfl⟩ := ret_some e4
    obtain ⟨v, h1, h2, rfl⟩ := rl.sl i _ hi
    obtain ⟨p, xs, rfl, hs, hr⟩ := h2.tup_inv
    obtain ⟨q1, q2, q3⟩ := id rl.wo
    have hlen : xs.length = ps.length := by rw [hr.len, List.length_map]
    refine ⟨_, h1, p, xs, rfl, .inr (sqt_mono rl.zn.ff hs), ps.length, by rw [hlen], ?_⟩
    refine ⟨by rw [← hq]; exact q1, F, p, xs, ps, h1, rl.zn.ff, (q3 _ rfl).1, hs, hr, rfl, rfl, hz, fun H2 r2 hk hT hn => ?_⟩
    have rl2 := rl.tab (H' := H2) (P := (tabK X.K).1) hk rfl (show TabS H2 (tabK X.K).1 (tabK X.K).2 by rw [hq]; exact hT)
    have gr : Gr F H2 (upd F r2 (.lst ((sortIx ps).map fun k : Nat => V.int (k : Int)))) (upd H2 r2 (.lst ((sortIx ps).map fun k : Nat => V.int (k : Int)))) := .new rl2.zn.ff hn
    have rl3 := (rl2.gr gr).untab hi
    refine k _ _ _ gr.f (rl3.set j (.lst upd_same ?_))
    have e : ((sortIx ps).map fun k : Nat => V.int (k : Int)) = ((sortIx ps).map fun k : Nat => (k : Int)).map V.int := by rw [List.map_map]; rfl
    have e2 : ((sortIx ps).map fun k : Nat => PyData.int (k : Int)) = ((sortIx ps).map fun k : Nat => (k : Int)).map PyData.int := by rw [List.map_map]; rfl
    rw [e, e2]
    exact .ints _
  · rw [if_neg hz] at e4
    cases e4
end DL
namespace DL
open PySem PySem.Spec PyProof.Rows L2 LamX
theorem tabK_q (K : PySem.W.Frag) : (tabK K).2 = lamQ := by
  unfold tabK
  split <;> rfl
/-! ### len(set(t)), t a tuple of ints -/
def rSetTI (K : PySem.W.Frag) (w : World) : List V → Hp → VK → Prop := fun xs H Q => ∃ (l : Addr) (ns : List Int), xs = [V.ref l] ∧ SqT K H l (ns.map V.int) ∧ ns.length ≤ 4000 ∧ ∀ a c, H a = none → c ≤ ns.length → Q (.ref a) (upd H a (SetO w a (fun j => decide (j ∈ ns)) c))
theorem cr_setTI {X : Cx} (hc : X.calm = true) : CallR X (.type "set") (rSetTI X.K X.w) := by
  intro pins s σ H xs us Q I r h
  obtain ⟨l, ns, rfl, hl, hz, q⟩ := h
  rw [Vals.ref1 r]
  obtain ⟨its, rv, pl, _⟩ := I.tuple hl
  have hn : H s.heap.objs.size = none := I.hok.fresh (Nat.le_refl _)
  refine call_set_tupI ns (I.ok.hd hc) pl (by simpa using rv.ints) (by unfold scanBound; omega) fun h' tk c R hcn k => ?_
  exact ⟨.ref s.heap.objs.size, upd H s.heap.objs.size (SetO X.w s.heap.objs.size (fun j => decide (j ∈ ns)) c), I.laid (t' := tk) k (Nat.le_refl _) (setO_new R), rfl, q _ c hn hcn⟩
def lenSetTD := arg1 fun d => match d with
  | .tuple ds => match intsOf ds with
    | some ns => if ns.length ≤ 4000 then some (.int ((uniqI ns).length : Int)) else none
    | none => none
  | _ => none
theorem de_lenSetT {X : Cx} {e : Expr} {a : DM} (h : PE X e (tCB (rLenSetO X.w) (tCons (tCB (rSetTI X.K X.w) (tCons (rdL X.K a) tNil)) tNil))) : DE X e (dCallB lenSetTD (aCons a aNil)) := h.imp fun σ H Q ⟨F, B, W, env, n, ds, n', rl, e, k⟩ => by
  obtain ⟨x, n1, e1, e⟩ := bnd_some e
  obtain ⟨d, n2, e3, e4⟩ := bnd_some e1
  rw [aNil, bnd_ret] at e4
  obtain ⟨rfl, rfl⟩ := ret_some e4
  obtain ⟨e5, rfl⟩ := lift_some e
  obtain ⟨d, hx, e6⟩ := arg1_some e5
  cases hx
  refine ⟨F, B, W, env, n, d, _, rl, e3, fun v F1 H1 g1 rl1 p1 => ?_⟩
  cases d with
  | tuple es =>
    simp only at e6
    split at e6
    · rename_i ns hn
      split at e6
      · rename_i hz
        cases e6
        obtain ⟨b, xs, rfl, hb, r⟩ := p1.lp.tup_inv
        rw [intsOf_some hn] at r
        rw [r.ints_inv] at hb
        refine ⟨b, ns, rfl, sqt_mono rl1.zn.ff hb, hz, fun p c hp hc => ⟨p, _, c, rfl, upd_same, fun ns' ha hm => ?_⟩⟩
        have gr : Gr F1 H1 F1 (upd H1 p (SetO X.w p (fun j => decide (j ∈ ns)) c)) := .mine rl1.zn.ff hp
        have hu : ns'.length = (uniqI ns).length := asc_length ha (asc_nodup (uniqI_asc ns)) fun k => by
          rw [hm, uniqI_mem]
          simp
        rw [hu]
        exact k _ F1 _ (g1.trans (.of gr)) (rl1.gr gr) (.int _)
      · cases e6
    · cases e6
  | _ => cases e6
end DL
namespace DL
open PySem PySem.Spec PyProof.Rows L2 LamX
/-! ### the end -/
theorem walk_tab {l : PySem.W.OpenLaw} {n k : Nat} {q : Program} {loose : List Str} {XP : (Str → Option Value) → Heap → Prop} {YP : World → Heap → Prop} {d : DefRec} {K : Params → PySem.W.Frag} {ts : List Addr}
    (hn : l.most = some n) (hn2 : n ≤ 63) (hdf : d.params.defaults = []) (hr : Room k callerA) (hY : ∀ (w : World) (h : Heap), YP w h → (K w.params).In h ∧ ∀ P ∈ ts, h.get? P = some (PySem.W.tabObj #[]))
    (F : ∀ (w : World) (mg : Str → Option Value) (fa : Addr) (h : Heap), (K w.params).In h → h.Ns mainGlobals mg → mg d.name = some (.ref fa) →
      ∃ (fd : FuncData) (c P : Addr), PySem.W.tabIn (K w.params) "rooms_for" = some (c, P) ∧ PySem.W.codeHdIn (K w.params) c P = true ∧ P ∈ ts ∧ (K w.params).lookup P = none ∧ (∀ (s : Shared) (u : Value), BindsTo s fd ⟨[u], []⟩ [("script", u)]) ∧
        ∀ base : Heap, (K w.params).In base → base.Ns mainGlobals mg → TabB base mg c P → FnOk l.prog w (K w.params) mg base CX0 k fa fd ["script"] (SpLaw (K w.params) (some (tabK (K w.params))))) :
    PySem.W.WalkO q loose XP YP l.row.toRowW d [] (fun f vs => PySem.call f vs) := by
  refine Att.attach_callB hn hdf fun w s₀ s₁ mg mb fa o pm cd doc a vs ns G Y ho hd hcd0 hmg hobj hints hlen hbits hg => ?_
  obtain ⟨KX, hts⟩ := hY w _ Y
  obtain ⟨fd, c, P, ht, hcd, hPt, nP, hb, hF⟩ := F w mg fa _ KX G.T.g hmg
  have C := PySem.W.codeHd_of_K KX hcd
  have hP := hts P hPt
  have hk : tabK (K w.params) = (P, lamQ) := by
    unfold tabK
    rw [ht]
  refine law_callTs (cs := [(c, P)]) KX G.T.g G.T.b G.T.builtins G.T.nolimit hg (fun p hp => ?_) (fun p hp => ?_) (fun p hp => ?_) G.T.bmain hobj hints (Nat.le_trans hlen (Nat.le_trans hn2 (by decide))) hr (fun base h1 h2 h3 => hF base h1 h2 (h3 (c, P) List.mem_cons_self)) hb (fun H hH hS => ?_) fun H e s' z => z
  · rw [List.mem_singleton.mp hp]
    exact hP
  · rw [List.mem_singleton.mp hp]
    exact nP
  · rw [List.mem_singleton.mp hp]
    exact C
  · exact ⟨a, ns, rfl, hS, Nat.le_trans hlen hn2, fun T e => by
      cases e
      rw [hk]
      exact hH (c, P) List.mem_cons_self, fun _ => rfl⟩
end DL

namespace LK
open PySem PySem.Spec PyProof.Rows L2 DL
def blt : List Str := ["abs", "int", "len", "max", "range", "set", "sorted", "sum", "tuple"]
abbrev n_rooms_for : List Str := ["pairs", "order", "found", "ends", "k", "begin", "end", "able", "room"]
def b_rooms_for : SM :=
  (sSeq (sLam 0 1)
  (sSeq (sAsgF 2 (dOpF repD (dLst (dDisp (aCons (dC (.int 0)) aNil))) (dCallB lenD (aCons (dVar 0) aNil))))
  (sSeq (sAsgF 3 (dDisp aNil))
  (sSeq (sFor (itemsL (dVar 1)) (.nm 4) (sSeq (sAsg (.tp [(.nm 5), (.nm 6)]) (dOp ixD (dVar 0) (dVar 4)))
  (sSeq (sAsg (.nm 7) (dLst (dLc (itemsR1 (dCallB lenD (aCons (dVarL 3) aNil))) (.nm 8) (tOf (dOp leD (dOp ixD (dVarL 3) (dVar 8)) (dVar 5))) (dVar 8) [8])))
  (sSeq (sIf (tOf (dOp eqD (dVar 7) (dLst (dDisp aNil)))) (sSeq (sAsg (.nm 7) (dLst (dDisp (aCons (dCallB lenD (aCons (dVarL 3) aNil)) aNil))))
  (sApp 3 (dVar 6))) sPass)
  (sSeq (sSetI 2 (dVar 4) (dOp ixD (dVar 7) (dC (.int 0))))
  (sSetI 3 (dOp ixD (dVar 7) (dC (.int 0))) (dVar 6)))))))
  (sRet (dCallB tupOfD (aCons (dVarL 2) aNil)))))))
def f_rooms_for : List PyData → Option PyData := runT b_rooms_for 9
abbrev n_common : List Str := ["a", "b"]
def b_common : SM :=
  (sSeq (sPar 0 1 (aCons (dCallB absD (aCons (dVar 0) aNil)) (aCons (dCallB absD (aCons (dVar 1) aNil)) aNil)))
  (sSeq (sWhile 1000 (tOf (dOp gtD (dVar 1) (dC (.int 0)))) (sPar 0 1 (aCons (dVar 1) (aCons (dOp modD (dVar 0) (dVar 1)) aNil))))
  (sRet (dVar 0))))
def f_common : List PyData → Option PyData := runF b_common 2
abbrev n_together : List Str := ["a", "b"]
def b_together : SM :=
  (sRet (dOp mulD (dOp fdivD (dVar 0) (dCallB f_common (aCons (dVar 0) (aCons (dVar 1) aNil)))) (dVar 1)))
def f_together : List PyData → Option PyData := runF b_together 2
abbrev n_fraction : List Str := ["upper", "lower", "d"]
def b_fraction : SM :=
  (sSeq (sAsg (.nm 2) (dCallB f_common (aCons (dVar 0) (aCons (dVar 1) aNil))))
  (sRet (dTup (aCons (dOp fdivD (dVar 0) (dVar 2)) (aCons (dOp fdivD (dVar 1) (dVar 2)) aNil)))))
def f_fraction : List PyData → Option PyData := runF b_fraction 3
abbrev n_added : List Str := ["one", "other"]
def b_added : SM :=
  (sRet (dCallB f_fraction (aCons (dOp addD (dOp mulD (dOp ixD (dVar 0) (dC (.int 0))) (dOp ixD (dVar 1) (dC (.int 1)))) (dOp mulD (dOp ixD (dVar 1) (dC (.int 0))) (dOp ixD (dVar 0) (dC (.int 1))))) (aCons (dOp mulD (dOp ixD (dVar 0) (dC (.int 1))) (dOp ixD (dVar 1) (dC (.int 1)))) aNil))))
def f_added : List PyData → Option PyData := runF b_added 2
abbrev n_rounds_fit : List Str := ["tasks", "told", "whole", "every", "long"]
def b_rounds_fit : SM :=
  (sSeq (sAsg (.nm 1) (dTup (aCons (dC (.int 0)) (aCons (dC (.int 1)) aNil))))
  (sSeq (sAsg (.nm 2) (dC (.int 1)))
  (sSeq (sFor (itemsT (dVar 0)) (.tp [(.nm 3), (.nm 4)]) (sSeq (sAsg (.nm 1) (dCallB f_added (aCons (dVar 1) (aCons (dCallB f_fraction (aCons (dVar 4) (aCons (dVar 3) aNil))) aNil))))
  (sAsg (.nm 2) (dCallB f_together (aCons (dVar 2) (aCons (dVar 3) aNil))))))
  (sRet (dIf (tOf (dOp leD (dOp ixD (dVar 1) (dC (.int 0))) (dOp ixD (dVar 1) (dC (.int 1))))) (dTup (aCons (dC (.str "yes")) (aCons (dVar 2) aNil))) (dTup (aCons (dC (.str "no")) (aCons (dVar 1) aNil))))))))
def f_rounds_fit : List PyData → Option PyData := runF b_rounds_fit 5
abbrev n__law_draws : List Str := ["script", "many", "draws", "mixed", "k", "cell", "rest", "turn"]
abbrev n__law_next : List Str := ["w", "many"]
abbrev f__law_next : Tag → List PyData → OM PyData := fNext
abbrev n__law_measure : List Str := ["a", "b"]
def b__law_measure : SM :=
  (sSeq (sWhile 1000 (tOf (dOp gtD (dVar 1) (dC (.int 0)))) (sPar 0 1 (aCons (dVar 1) (aCons (dOp modD (dVar 0) (dVar 1)) aNil))))
  (sRet (dVar 0)))
def f__law_measure : List PyData → Option PyData := runF b__law_measure 2
abbrev n__law_least : List Str := ["a", "b", "one", "other"]
def b__law_least : SM :=
  (sSeq (sPar 2 3 (aCons (dCallB absD (aCons (dVar 0) aNil)) (aCons (dCallB absD (aCons (dVar 1) aNil)) aNil)))
  (sSeq (sWhile 1000 (tOf (dOp gtD (dVar 3) (dC (.int 0)))) (sPar 2 3 (aCons (dVar 3) (aCons (dOp modD (dVar 2) (dVar 3)) aNil))))
  (sSeq (sAsg (.nm 2) (dIf (tOf (dOp gtD (dVar 1) (dC (.int 0)))) (dVar 2) (dOp subD (dC (.int 0)) (dVar 2))))
  (sRet (dTup (aCons (dOp fdivD (dVar 0) (dVar 2)) (aCons (dOp fdivD (dVar 1) (dVar 2)) aNil)))))))
def f__law_least : List PyData → Option PyData := runF b__law_least 4
abbrev n__law_holds : List Str := ["w", "pairs", "meet", "tasks", "whole", "upper", "every", "long", "told", "x", "k", "t", "own"]
def b__law_holds : SM :=
  (sSeq (sAsg (.nm 1) (dCallB tupOfD (aCons (dLst (dLc (itemsL (dLst (dLc (itemsR1 (dCallW f__law_next 0 (aCons (dC (.int 8)) aNil))) (.nm 10) tTrue (dCallW f__law_next 0 (aCons (dC (.int 15)) aNil)) [10]))) (.nm 9) tTrue (dTup (aCons (dVar 9) (aCons (dOp addD (dOp addD (dVar 9) (dC (.int 1))) (dCallW f__law_next 0 (aCons (dC (.int 6)) aNil))) aNil))) [9])) aNil)))
  (sSeq (sAsg (.nm 2) (dCallB max1D (aCons (dLst (dOpF catD (dLst (dDisp (aCons (dC (.int 0)) aNil))) (dLst (dLc (itemsR1 (dC (.int 25))) (.nm 11) tTrue (dCallB lenD (aCons (dLst (dLc (itemsT (dVar 1)) (.nm 12) (tOf (dChain leD ltD (dOp ixD (dVar 12) (dC (.int 0))) (dVar 11) (dOp ixD (dVar 12) (dC (.int 1))))) (dVar 12) [12])) aNil)) [11])))) aNil)))
  (sSeq (sIf (tOf (dOp neD (dCallB lenSetTD (aCons (dCallT f_rooms_for 0 (dVar 1)) aNil)) (dVar 2))) (sRet (dC (.bool false))) sPass)
  (sSeq (sAsg (.nm 3) (dCallB tupOfD (aCons (dLst (dLc (itemsR1 (dOp addD (dC (.int 1)) (dCallW f__law_next 0 (aCons (dC (.int 3)) aNil)))) (.nm 10) tTrue (dTup (aCons (dOp addD (dC (.int 2)) (dCallW f__law_next 0 (aCons (dC (.int 8)) aNil))) (aCons (dOp addD (dC (.int 1)) (dCallW f__law_next 0 (aCons (dC (.int 3)) aNil))) aNil))) [10])) aNil)))
  (sSeq (sAsg (.tp [(.nm 4), (.nm 5)]) (dTup (aCons (dC (.int 1)) (aCons (dC (.int 0)) aNil))))
  (sSeq (sFor (itemsT (dVar 3)) (.tp [(.nm 6), (.nm 7)]) (sAsg (.nm 4) (dOp fdivD (dOp mulD (dVar 4) (dVar 6)) (dCallB f__law_measure (aCons (dVar 4) (aCons (dVar 6) aNil))))))
  (sSeq (sAsg (.nm 5) (dCallB sumD (aCons (dLst (dLc (itemsT (dVar 3)) (.tp [(.nm 6), (.nm 7)]) tTrue (dOp mulD (dOp fdivD (dVar 4) (dVar 6)) (dVar 7)) [6, 7])) aNil)))
  (sSeq (sAsg (.nm 8) (dCallB f_rounds_fit (aCons (dVar 3) aNil)))
  (sRet (dIf (tOf (dOp leD (dVar 5) (dVar 4))) (dOp eqD (dVar 8) (dTup (aCons (dC (.str "yes")) (aCons (dVar 4) aNil)))) (dOp eqD (dVar 8) (dTup (aCons (dC (.str "no")) (aCons (dCallB f__law_least (aCons (dVar 5) (aCons (dVar 4) aNil))) aNil))))))))))))))
def f__law_holds : Tag → List PyData → OM PyData := runW b__law_holds 13
end LK

namespace LK
open PySem PySem.Spec PyProof.Rows L2 DL
/-! ### the rooms, plainly -/
def bg (ps : List (Int × Int)) (k : Nat) : Int := (ps.getD k (0, 0)).1
def en (ps : List (Int × Int)) (k : Nat) : Int := (ps.getD k (0, 0)).2
def ableR (ps : List (Int × Int)) (k : Nat) (ends : List Int) : List Nat := (List.range ends.length).filter fun r => decide (ends.getD r 0 ≤ bg ps k)
def stepR (ps : List (Int × Int)) (s : List Int × List Int) (k : Nat) : List Int × List Int := match ableR ps k s.2 with
  | [] => (s.1.set k (s.2.length : Int), s.2 ++ [en ps k])
  | r :: _ => (s.1.set k (r : Int), s.2.set r (en ps k))
def cnt (ps : List (Int × Int)) (t : Int) : Nat := ((List.range ps.length).filter fun k => decide (bg ps k ≤ t ∧ t < en ps k)).length
theorem len_le : ∀ {l m : List Nat}, l.Nodup → (∀ x ∈ l, x ∈ m) → l.length ≤ m.length
  | [], m, _, _ => Nat.zero_le _
  | x :: l, m, hn, hs => by
    obtain ⟨h1, h2⟩ := List.nodup_cons.mp hn
    have hx := hs x List.mem_cons_self
    have ih := len_le (l := l) (m := m.erase x) h2 fun y hy => (List.mem_erase_of_ne (fun (e : y = x) => h1 (e ▸ hy))).mpr (hs y (List.mem_cons_of_mem _ hy))
    rw [List.length_erase_of_mem hx] at ih
    have := List.length_pos_of_mem hx
    rw [List.length_cons]
    omega
structure InvR (ps : List (Int × Int)) (done : List Nat) (found ends : List Int) : Prop where
  len : found.length = ps.length
  lt : ∀ k ∈ done, k < ps.length
  a : ∀ k ∈ done, ∃ (r : Nat) (x : Int), found[k]? = some (r : Int) ∧ ends[r]? = some x ∧ en ps k ≤ x
  b : ∀ (r : Nat) (x : Int), ends[r]? = some x → ∃ k ∈ done, found[k]? = some (r : Int) ∧ en ps k = x
  c : ∀ j ∈ done, ∀ k ∈ done, j ≠ k → found[j]? = found[k]? → en ps j ≤ bg ps k ∨ en ps k ≤ bg ps j
  d : ends = [] ∨ ∃ t : Int, 0 ≤ t ∧ t < 25 ∧ ends.length ≤ cnt ps t
theorem step_old {ps : List (Int × Int)} {done : List Nat} {found ends : List Int} {k r : Nat} {y : Int} (h : InvR ps done found ends) (hk : k < ps.length) (hd : k ∉ done) (hv : bg ps k < en ps k)
    (hr : ends[r]? = some y) (hy : y ≤ bg ps k) : InvR ps (k :: done) (found.set k (r : Int)) (ends.set r (en ps k)) := by
  have hkl : k < found.length := by rw [h.len]; exact hk
  have hrl : r < ends.length := (List.getElem?_eq_some_iff.mp hr).1
  have fk : (found.set k (r : Int))[k]? = some (r : Int) := by rw [List.getElem?_set_self hkl]
  have fo : ∀ j ∈ done, (found.set k (r : Int))[j]? = found[j]? := fun j hj => List.getElem?_set_ne (fun (e : k = j) => hd (e ▸ hj))
  refine ⟨by rw [List.length_set]; exact h.len, ?_, ?_, ?_, ?_, ?_⟩
  · intro j hj
    rcases List.mem_cons.mp hj with rfl | hj
    · exact hk
    · exact h.lt j hj
  · intro j hj
    rcases List.mem_cons.mp hj with rfl | hj
    · exact ⟨r, _, fk, List.getElem?_set_self hrl, Int.le_refl _⟩
    · obtain ⟨r', x, h1, h2, h3⟩ := h.a j hj
      by_cases e : r = r'
      · subst e
        rw [hr] at h2
        cases h2
        exact ⟨r, _, (fo j hj).trans h1, List.getElem?_set_self hrl, by omega⟩
      · exact ⟨r', x, (fo j hj).trans h1, (List.getElem?_set_ne e).trans h2, h3⟩
  · intro r' x hx
    by_cases e : r = r'
    · subst e
      rw [List.getElem?_set_self hrl] at hx
      cases hx
      exact ⟨k, List.mem_cons_self, fk, rfl⟩
    · rw [List.getElem?_set_ne e] at hx
      obtain ⟨j, hj, h1, h2⟩ := h.b r' x hx
      exact ⟨j, List.mem_cons_of_mem _ hj, (fo j hj).trans h1, h2⟩
  · have key : ∀ j ∈ done, found[j]? = some (r : Int) → en ps j ≤ bg ps k := fun j hj e => by
      obtain ⟨r', x, h1, h2, h3⟩ := h.a j hj
      rw [e] at h1
      have : r = r' := by
        have := Option.some.inj h1
        omega
      subst this
      rw [hr] at h2
      cases h2
      omega
    intro i hi j hj hij e
    rcases List.mem_cons.mp hi with rfl | hi'
    · rcases List.mem_cons.mp hj with rfl | hj'
      · exact absurd rfl hij
      · rw [fk, fo j hj'] at e
        exact .inr (key j hj' e.symm)
    · rcases List.mem_cons.mp hj with rfl | hj'
      · rw [fk, fo i hi'] at e
        exact .inl (key i hi' e)
      · rw [fo i hi', fo j hj'] at e
        exact h.c i hi' j hj' hij e
  · right
    rcases h.d with e | ⟨t, h1, h2, h3⟩
    · rw [e] at hrl
      cases hrl
    · exact ⟨t, h1, h2, by rw [List.length_set]; exact h3⟩
theorem step_new {ps : List (Int × Int)} {done : List Nat} {found ends : List Int} {k : Nat} (h : InvR ps done found ends) (hk : k < ps.length) (hd : k ∉ done) (hv : 0 ≤ bg ps k ∧ bg ps k < 15 ∧ bg ps k < en ps k)
    (hs : ∀ j ∈ done, bg ps j ≤ bg ps k) (hr : ∀ (r : Nat) (x : Int), ends[r]? = some x → bg ps k < x) : InvR ps (k :: done) (found.set k (ends.length : Int)) (ends ++ [en ps k]) := by
  have hkl : k < found.length := by rw [h.len]; exact hk
  have fk : (found.set k (ends.length : Int))[k]? = some (ends.length : Int) := by rw [List.getElem?_set_self hkl]
  have fo : ∀ j ∈ done, (found.set k (ends.length : Int))[j]? = found[j]? := fun j hj => List.getElem?_set_ne (fun (e : k = j) => hd (e ▸ hj))
  have el : (ends ++ [en ps k])[ends.length]? = some (en ps k) := by simp
  have eo : ∀ (r : Nat) (x : Int), ends[r]? = some x → (ends ++ [en ps k])[r]? = some x := fun r x e => by
    rw [List.getElem?_append_left (List.getElem?_eq_some_iff.mp e).1]
    exact e
  refine ⟨by rw [List.length_set]; exact h.len, ?_, ?_, ?_, ?_, ?_⟩
  · intro j hj
    rcases List.mem_cons.mp hj with rfl | hj
    · exact hk
    · exact h.lt j hj
  · intro j hj
    rcases List.mem_cons.mp hj with rfl | hj
    · exact ⟨_, _, fk, el, Int.le_refl _⟩
    · obtain ⟨r', x, h1, h2, h3⟩ := h.a j hj
      exact ⟨r', x, (fo j hj).trans h1, eo _ _ h2, h3⟩
  · intro r' x hx
    by_cases e : r' < ends.length
    · rw [List.getElem?_append_left e] at hx
      obtain ⟨j, hj, h1, h2⟩ := h.b r' x hx
      exact ⟨j, List.mem_cons_of_mem _ hj, (fo j hj).trans h1, h2⟩
    · have hl := (List.getElem?_eq_some_iff.mp hx).1
      rw [List.length_append, List.length_singleton] at hl
      have : r' = ends.length := by omega
      subst this
      rw [el] at hx
      cases hx
      exact ⟨k, List.mem_cons_self, fk, rfl⟩
  · have key : ∀ j ∈ done, found[j]? ≠ some (ends.length : Int) := fun j hj e => by
      obtain ⟨r', x, h1, h2, h3⟩ := h.a j hj
      rw [e] at h1
      have h4 := (List.getElem?_eq_some_iff.mp h2).1
      have := Option.some.inj h1
      omega
    intro i hi j hj hij e
    rcases List.mem_cons.mp hi with rfl | hi'
    · rcases List.mem_cons.mp hj with rfl | hj'
      · exact absurd rfl hij
      · rw [fk, fo j hj'] at e
        exact absurd e.symm (key j hj')
    · rcases List.mem_cons.mp hj with rfl | hj'
      · rw [fk, fo i hi'] at e
        exact absurd e (key i hi')
      · rw [fo i hi', fo j hj'] at e
        exact h.c i hi' j hj' hij e
  · refine .inr ⟨bg ps k, hv.1, by omega, ?_⟩
    have hf : ∀ r : Nat, ∃ j, r < ends.length → j ∈ done ∧ found[j]? = some (r : Int) ∧ bg ps k < en ps j := fun r => by
      by_cases e : r < ends.length
      · obtain ⟨j, hj, h1, h2⟩ := h.b r _ (List.getElem?_eq_getElem e)
        refine ⟨j, fun _ => ⟨hj, h1, ?_⟩⟩
        rw [h2]
        exact hr r _ (List.getElem?_eq_getElem e)
      · exact ⟨0, fun z => absurd z e⟩
    let f : Nat → Nat := fun r => Classical.choose (hf r)
    have f1 : ∀ r, r < ends.length → f r ∈ done ∧ found[f r]? = some (r : Int) ∧ bg ps k < en ps (f r) := fun r => Classical.choose_spec (hf r)
    have hn : (k :: (List.range ends.length).map f).Nodup := by
      refine List.nodup_cons.mpr ⟨fun hm => ?_, ?_⟩
      · obtain ⟨r, h1, h2⟩ := List.mem_map.mp hm
        exact hd (h2 ▸ (f1 r (List.mem_range.mp h1)).1)
      · refine List.pairwise_map.mpr (List.Pairwise.imp_of_mem ?_ (List.nodup_range (n := ends.length)))
        intro r s hr hs hne e
        have g1 := (f1 r (List.mem_range.mp hr)).2.1
        have g2 := (f1 s (List.mem_range.mp hs)).2.1
        rw [e, g2] at g1
        have := Option.some.inj g1
        exact hne (by omega)
    have := len_le (m := (List.range ps.length).filter fun j => decide (bg ps j ≤ bg ps k ∧ bg ps k < en ps j)) hn fun j hj => by
      refine List.mem_filter.mpr ?_
      rcases List.mem_cons.mp hj with rfl | hj
      · exact ⟨List.mem_range.mpr hk, decide_eq_true ⟨Int.le_refl _, hv.2.2⟩⟩
      · obtain ⟨r, h1, rfl⟩ := List.mem_map.mp hj
        obtain ⟨g1, g2, g3⟩ := f1 r (List.mem_range.mp h1)
        exact ⟨List.mem_range.mpr (h.lt _ g1), decide_eq_true ⟨hs _ g1, g3⟩⟩
    rw [List.length_cons, List.length_map, List.length_range] at this
    rw [List.length_append, List.length_singleton]
    exact this
theorem able_mem {ps : List (Int × Int)} {k : Nat} {ends : List Int} {r : Nat} : r ∈ ableR ps k ends ↔ ∃ x, ends[r]? = some x ∧ x ≤ bg ps k := by
  unfold ableR
  rw [List.mem_filter, List.mem_range]
  constructor
  · intro ⟨h1, h2⟩
    refine ⟨_, List.getElem?_eq_getElem h1, ?_⟩
    have := of_decide_eq_true h2
    rw [List.getD_eq_getElem?_getD, List.getElem?_eq_getElem h1] at this
    exact this
  · intro ⟨x, h1, h2⟩
    refine ⟨(List.getElem?_eq_some_iff.mp h1).1, decide_eq_true ?_⟩
    rw [List.getD_eq_getElem?_getD, h1]
    exact h2
theorem step_inv {ps : List (Int × Int)} {done : List Nat} {s : List Int × List Int} {k : Nat} (h : InvR ps done s.1 s.2) (hk : k < ps.length) (hd : k ∉ done) (hv : 0 ≤ bg ps k ∧ bg ps k < 15 ∧ bg ps k < en ps k)
    (hs : ∀ j ∈ done, bg ps j ≤ bg ps k) : InvR ps (k :: done) (stepR ps s k).1 (stepR ps s k).2 := by
  unfold stepR
  split
  · rename_i e
    refine step_new h hk hd hv hs fun r x hx => ?_
    refine Int.not_le.mp fun hle => ?_
    have := able_mem.mpr ⟨x, hx, hle⟩
    rw [e] at this
    cases this
  · rename_i r l e
    have : r ∈ ableR ps k s.2 := by rw [e]; exact List.mem_cons_self
    obtain ⟨x, h1, h2⟩ := able_mem.mp this
    exact step_old h hk hd hv.2.2 h1 h2
theorem fold_inv {ps : List (Int × Int)} (hv : ∀ k, k < ps.length → 0 ≤ bg ps k ∧ bg ps k < 15 ∧ bg ps k < en ps k) : ∀ (ks done : List Nat) (s : List Int × List Int), InvR ps done s.1 s.2 → (∀ k ∈ ks, k < ps.length) → ks.Nodup → (∀ k ∈ ks, k ∉ done) →
    ks.Pairwise (fun i j => bg ps i ≤ bg ps j) → (∀ j ∈ done, ∀ k ∈ ks, bg ps j ≤ bg ps k) → ∃ done', (∀ k, k ∈ done' ↔ k ∈ done ∨ k ∈ ks) ∧ InvR ps done' (ks.foldl (stepR ps) s).1 (ks.foldl (stepR ps) s).2
  | [], done, s, h, _, _, _, _, _ => ⟨done, fun k => by simp, h⟩
  | k :: ks, done, s, h, h1, h2, h3, h4, h5 => by
    obtain ⟨n1, n2⟩ := List.nodup_cons.mp h2
    obtain ⟨p1, p2⟩ := List.pairwise_cons.mp h4
    have h' := step_inv h (h1 k List.mem_cons_self) (h3 k List.mem_cons_self) (hv k (h1 k List.mem_cons_self)) fun j hj => h5 j hj k List.mem_cons_self
    obtain ⟨d', e, hi⟩ := fold_inv hv ks (k :: done) (stepR ps s k) h' (fun j hj => h1 j (List.mem_cons_of_mem _ hj)) n2 (fun j hj hm => by
      rcases List.mem_cons.mp hm with rfl | hm
      · exact n1 hj
      · exact h3 j (List.mem_cons_of_mem _ hj) hm) p2 (fun i hi j hj => by
      rcases List.mem_cons.mp hi with rfl | hi
      · exact p1 j hj
      · exact h5 i hi j (List.mem_cons_of_mem _ hj))
    refine ⟨d', fun j => ?_, hi⟩
    rw [e, List.mem_cons, List.mem_cons]
    constructor
    · rintro ((h | h) | h)
      · exact .inr (.inl h)
      · exact .inl h
      · exact .inr (.inr h)
    · rintro (h | h | h)
      · exact .inl (.inr h)
      · exact .inl (.inl h)
      · exact .inr h
def finR (ps : List (Int × Int)) : List Int × List Int := (sortIx ps).foldl (stepR ps) (List.replicate ps.length 0, [])
theorem leIx_bg {ps : List (Int × Int)} {i j : Nat} (h : leIx ps i j = true) : bg ps i ≤ bg ps j := by
  unfold leIx at h
  unfold bg
  simp only [Bool.not_eq_true', decide_eq_false_iff_not] at h
  omega
theorem fin_inv {ps : List (Int × Int)} (hv : ∀ k, k < ps.length → 0 ≤ bg ps k ∧ bg ps k < 15 ∧ bg ps k < en ps k) : ∃ done, (∀ k, k ∈ done ↔ k < ps.length) ∧ InvR ps done (finR ps).1 (finR ps).2 := by
  have pm : (sortIx ps).Perm (List.range ps.length) := List.mergeSort_perm _ _
  have so : (sortIx ps).Pairwise fun i j => leIx ps i j = true := List.pairwise_mergeSort (fun a b c h1 h2 => by
    unfold leIx at *
    simp at *
    omega) (fun a b => by
    unfold leIx
    simp
    omega) _
  obtain ⟨d, e, h⟩ := fold_inv hv (sortIx ps) [] (List.replicate ps.length 0, []) ⟨List.length_replicate, (fun k h => nomatch h), (fun k h => nomatch h), (fun r x h => by simp at h), (fun k h => nomatch h), .inl rfl⟩
    (fun k hk => List.mem_range.mp ((pm.mem_iff).mp hk)) (pm.nodup_iff.mpr List.nodup_range) (fun k _ h => nomatch h) (so.imp leIx_bg) (fun k h => nomatch h)
  refine ⟨d, fun k => ?_, h⟩
  rw [e, pm.mem_iff, List.mem_range]
  simp
theorem fin_len {ps : List (Int × Int)} (hv : ∀ k, k < ps.length → 0 ≤ bg ps k ∧ bg ps k < 15 ∧ bg ps k < en ps k) : (uniqI (finR ps).1).length = (finR ps).2.length ∧ ((finR ps).2 = [] ∨ ∃ t : Int, 0 ≤ t ∧ t < 25 ∧ (finR ps).2.length ≤ cnt ps t) ∧ ∀ t : Int, cnt ps t ≤ (finR ps).2.length := by
  obtain ⟨done, e, h⟩ := fin_inv hv
  refine ⟨?_, h.d, fun t => ?_⟩
  · have hu := asc_length (l := uniqI (finR ps).1) (m := (List.range (finR ps).2.length).map fun r : Nat => (r : Int)) (asc_nodup (uniqI_asc _)) (List.pairwise_map.mpr (List.Pairwise.imp (fun {a b} hab he => hab (by omega)) (List.nodup_range (n := (finR ps).2.length)))) fun x => by
      rw [uniqI_mem, List.mem_map]
      constructor
      · intro hx
        obtain ⟨k, hk, rfl⟩ := List.mem_iff_getElem.mp hx
        obtain ⟨r, y, h1, h2, _⟩ := h.a k ((e k).mpr (by rw [← h.len]; exact hk))
        rw [List.getElem?_eq_getElem hk] at h1
        exact ⟨r, List.mem_range.mpr (List.getElem?_eq_some_iff.mp h2).1, (Option.some.inj h1).symm⟩
      · rintro ⟨r, hr, rfl⟩
        obtain ⟨k, _, h1, _⟩ := h.b r _ (List.getElem?_eq_getElem (List.mem_range.mp hr))
        exact List.mem_of_getElem? h1
    rw [hu, List.length_map, List.length_range]
  · have hf : ∀ k : Nat, ∃ r : Nat, k < ps.length → (finR ps).1[k]? = some (r : Int) ∧ r < (finR ps).2.length := fun k => by
      by_cases c : k < ps.length
      · obtain ⟨r, y, h1, h2, _⟩ := h.a k ((e k).mpr c)
        exact ⟨r, fun _ => ⟨h1, (List.getElem?_eq_some_iff.mp h2).1⟩⟩
      · exact ⟨0, fun z => absurd z c⟩
    let f : Nat → Nat := fun r => Classical.choose (hf r)
    have f1 : ∀ k, k < ps.length → (finR ps).1[k]? = some (f k : Int) ∧ f k < (finR ps).2.length := fun r => Classical.choose_spec (hf r)
    have := len_le (l := ((List.range ps.length).filter fun k => decide (bg ps k ≤ t ∧ t < en ps k)).map f) (m := List.range (finR ps).2.length) (List.pairwise_map.mpr (List.Pairwise.imp_of_mem (fun {i j} hi hj hne he => by
      obtain ⟨i1, i2⟩ := List.mem_filter.mp hi
      obtain ⟨j1, j2⟩ := List.mem_filter.mp hj
      have i3 := of_decide_eq_true i2
      have j3 := of_decide_eq_true j2
      have i1 := List.mem_range.mp i1
      have j1 := List.mem_range.mp j1
      have := h.c i ((e i).mpr i1) j ((e j).mpr j1) hne (by rw [(f1 i i1).1, (f1 j j1).1, he])
      omega) (List.Pairwise.filter _ (List.nodup_range (n := ps.length))))) fun x hx => by
      obtain ⟨k, hk, rfl⟩ := List.mem_map.mp hx
      exact List.mem_range.mpr (f1 k (List.mem_range.mp (List.mem_filter.mp hk).1)).2
    rw [List.length_map, List.length_range] at this
    exact this
theorem range_getD (ps : List (Int × Int)) : (List.range ps.length).map (fun k => ps.getD k (0, 0)) = ps := by
  apply List.ext_getElem?
  intro i
  rw [List.getElem?_map]
  by_cases h : i < ps.length
  · rw [List.getElem?_range h, List.getElem?_eq_getElem h, Option.map_some, List.getD_eq_getElem?_getD, List.getElem?_eq_getElem h]
    rfl
  · rw [List.getElem?_eq_none (by rw [List.length_range]; omega), List.getElem?_eq_none (by omega)]
    rfl
theorem cnt_eq (ps : List (Int × Int)) (t : Int) : (ps.filter fun p => decide (p.1 ≤ t ∧ t < p.2)).length = cnt ps t := by
  have e : (ps.filter fun p => decide (p.1 ≤ t ∧ t < p.2)) = ((List.range ps.length).map fun k => ps.getD k (0, 0)).filter fun p => decide (p.1 ≤ t ∧ t < p.2) := by
    rw [range_getD]
  rw [e, List.filter_map, List.length_map]
  rfl
/-- as many as meet -/
theorem meet_eq {ps : List (Int × Int)} (hv : ∀ k, k < ps.length → 0 ≤ bg ps k ∧ bg ps k < 15 ∧ bg ps k < en ps k) : maxL (0 :: (List.range 25).map fun t : Nat => ((cnt ps (t : Int) : Nat) : Int)) = ((uniqI (finR ps).1).length : Int) := by
  obtain ⟨h1, h2, h3⟩ := fin_len hv
  obtain ⟨m1, m2⟩ := foldMax ((List.range 25).map fun t : Nat => ((cnt ps (t : Int) : Nat) : Int)) 0
  have hm : maxL (0 :: (List.range 25).map fun t : Nat => ((cnt ps (t : Int) : Nat) : Int)) = List.foldl (fun a b => if b > a then b else a) 0 ((List.range 25).map fun t : Nat => ((cnt ps (t : Int) : Nat) : Int)) := rfl
  rw [hm, h1]
  refine Int.le_antisymm ?_ ?_
  · rcases List.mem_cons.mp m1 with e | e
    · rw [e]
      omega
    · obtain ⟨t, _, e⟩ := List.mem_map.mp e
      rw [← e]
      have := h3 t
      omega
  · rcases h2 with e | ⟨t, t0, t1, ht⟩
    · rw [e]
      exact m2 0 List.mem_cons_self
    · have := m2 ((cnt ps t : Nat) : Int) (List.mem_cons_of_mem _ (List.mem_map.mpr ⟨t.toNat, List.mem_range.mpr (by omega), by
        rw [Int.toNat_of_nonneg t0]⟩))
      omega
end LK

namespace LK
open PySem PySem.Spec PyProof.Rows L2 DL
/-! ### rooms_for -/
abbrev ES (ps : List (Int × Int)) (ord : PyData) (found ends : List Int) (x4 x5 x6 x7 : Option En) : DL.Env := [some (.val (.tuple (ps.map twoD))), some (.val ord), some (.own (found.map PyData.int)), some (.own (ends.map PyData.int)), x4, x5, x6, x7, none]
def BT : SM := (sSeq (sAsg (.tp [(.nm 5), (.nm 6)]) (dOp ixD (dVar 0) (dVar 4)))
  (sSeq (sAsg (.nm 7) (dLst (dLc (itemsR1 (dCallB lenD (aCons (dVarL 3) aNil))) (.nm 8) (tOf (dOp leD (dOp ixD (dVarL 3) (dVar 8)) (dVar 5))) (dVar 8) [8])))
  (sSeq (sIf (tOf (dOp eqD (dVar 7) (dLst (dDisp aNil)))) (sSeq (sAsg (.nm 7) (dLst (dDisp (aCons (dCallB lenD (aCons (dVarL 3) aNil)) aNil))))
  (sApp 3 (dVar 6))) sPass)
  (sSeq (sSetI 2 (dVar 4) (dOp ixD (dVar 7) (dC (.int 0))))
  (sSetI 3 (dOp ixD (dVar 7) (dC (.int 0))) (dVar 6))))))
theorem ixN_nt {n j : Nat} (hj : j < n) : ixN n (j : Int) = some j := by
  unfold ixN
  rw [if_pos (by omega), if_pos (by omega)]
  simp
theorem e_SetI {i : Nat} {mk me : DM} {env : DL.Env} : sSetI i mk me env = bnd (me env) fun d => bnd (mk env) fun j => match getO env i, j with
  | some ds, .int j => (match ixN ds.length j with
    | some k => ret (.nx (env.set i (some (.own (ds.set k d)))))
    | none => fail)
  | _, _ => fail := rfl
theorem able_lc {ps : List (Int × Int)} {ends : List Int} (k : Nat) (e0 e1 e2 e4 e6 e7 : Option En) :
    lcLoop (.nm 8) (tOf (dOp leD (dOp ixD (dVarL 3) (dVar 8)) (dVar 5))) (dVar 8) [e0, e1, e2, some (.own (ends.map PyData.int)), e4, some (.val (.int (bg ps k))), e6, e7, none] (rangeD 0 (ends.length : Int)) = ret (((ableR ps k ends).map fun r : Nat => (r : Int)).map PyData.int) := by
  rw [lcLoop_range (fun y => decide (ends.getD y.toNat 0 ≤ bg ps k)) PyData.int fun y h0 h1 => ⟨_, rfl, ?_, fun _ => by simp⟩]
  · congr 1
    congr 1
    have e : ((ends.length : Int) - 0).toNat = ends.length := by omega
    have e2 : (fun i : Nat => (0 : Int) + (i : Int)) = fun i : Nat => (i : Int) := by
      funext i
      omega
    rw [e, e2, List.filter_map]
    rfl
  · have hy : atI (ends.map PyData.int) y = some (.int (ends.getD y.toNat 0)) := by
      have e : y = ((y.toNat : Nat) : Int) := by omega
      rw [e]
      refine atI_nat ?_
      rw [List.getElem?_map, Int.toNat_natCast, List.getD_eq_getElem?_getD, List.getElem?_eq_getElem (show y.toNat < ends.length by omega)]
      rfl
    simp [hy]
theorem turn_eq {ps : List (Int × Int)} {found ends : List Int} {k : Nat} (hk : k < ps.length) (hf : found.length = ps.length) (he : ends.length ≤ 1000) (ord : PyData) (x5 x6 x7 : Option En) :
    ∃ y5 y6 y7, BT (ES ps ord found ends (some (.val (.int (k : Int)))) x5 x6 x7) = ret (.nx (ES ps ord (stepR ps (found, ends) k).1 (stepR ps (found, ends) k).2 (some (.val (.int (k : Int)))) y5 y6 y7)) := by
  have hp : atI (ps.map twoD) (k : Int) = some (.tuple [.int (bg ps k), .int (en ps k)]) := by
    refine atI_nat ?_
    unfold bg en
    rw [List.getElem?_map, List.getD_eq_getElem?_getD, List.getElem?_eq_getElem hk]
    rfl
  have hb : -big ≤ (ends.length : Int) ∧ (ends.length : Int) ≤ big := by
    unfold big
    omega
  have hl : ends.length ≤ lim := by
    unfold lim
    omega
  have hl2 : ends.length < 16000000 := by omega
  have hkf : ixN found.length (k : Int) = some k := ixN_nt (by omega)
  have hr : (rangeD 0 (ends.length : Int)).length ≤ 16000000 := by
    rw [rangeD_len]
    omega
  have h1 := able_lc (ps := ps) (ends := ends) k (some (.val (.tuple (ps.map twoD)))) (some (.val ord)) (some (.own (found.map PyData.int))) (some (.val (.int (k : Int)))) (some (.val (.int (en ps k)))) x7
  unfold BT
  refine ⟨some (.val (.int (bg ps k))), some (.val (.int (en ps k))), some (.val (.list ((match ableR ps k ends with | [] => [(ends.length : Int)] | r :: l => (r :: l).map fun r : Nat => (r : Int)).map PyData.int))), ?_⟩
  cases ha : ableR ps k ends with
  | nil =>
    rw [ha] at h1
    have es : stepR ps (found, ends) k = (found.set k (ends.length : Int), ends ++ [en ps k]) := by
      unfold stepR
      simp only [ha]
    have eq1 : eqD (.list []) (.list []) = some (.bool true) := v_eqLL [] []
    have hx : ixN (ends.length + 1) (ends.length : Int) = some ends.length := ixN_nt (by omega)
    rw [es]
    simp [hp, hb, hr, h1, eq1, lim, hkf, hx, hl2, e_SetI, ES]
  | cons r l =>
    rw [ha] at h1
    have es : stepR ps (found, ends) k = (found.set k (r : Int), ends.set r (en ps k)) := by
      unfold stepR
      simp only [ha]
    have eq1 : eqD (.list (.int (r : Int) :: l.map (PyData.int ∘ fun r : Nat => (r : Int)))) (.list []) = some (.bool false) := by
      have := v_eqLL ((r : Int) :: l.map fun r : Nat => (r : Int)) []
      simpa using this
    have hrl : r < ends.length := by
      obtain ⟨x, hx, _⟩ := able_mem.mp (show r ∈ ableR ps k ends by rw [ha]; exact List.mem_cons_self)
      exact (List.getElem?_eq_some_iff.mp hx).1
    have hx : ixN ends.length (r : Int) = some r := ixN_nt hrl
    rw [es]
    simp [hp, hb, hr, h1, eq1, lim, hkf, hx, hl2, e_SetI, ES]
theorem step_len {ps : List (Int × Int)} {s : List Int × List Int} {k : Nat} : (stepR ps s k).1.length = s.1.length ∧ (stepR ps s k).2.length ≤ s.2.length + 1 := by
  unfold stepR
  split <;> simp
theorem loop_eq {ps : List (Int × Int)} (ord : PyData) : ∀ (ks : List Nat) (s : List Int × List Int) (x4 x5 x6 x7 : Option En), (∀ k ∈ ks, k < ps.length) → s.1.length = ps.length → s.2.length + ks.length ≤ 1000 →
    ∃ y4 y5 y6 y7, forLoop (.nm 4) BT (ks.map fun k : Nat => PyData.int (k : Int)) (ES ps ord s.1 s.2 x4 x5 x6 x7) = ret (.nx (ES ps ord (ks.foldl (stepR ps) s).1 (ks.foldl (stepR ps) s).2 y4 y5 y6 y7))
  | [], s, x4, x5, x6, x7, _, _, _ => ⟨x4, x5, x6, x7, rfl⟩
  | k :: ks, s, x4, x5, x6, x7, h1, h2, h3 => by
    rw [List.length_cons] at h3
    obtain ⟨y5, y6, y7, e⟩ := turn_eq (ps := ps) (found := s.1) (ends := s.2) (h1 k List.mem_cons_self) h2 (by omega) ord x5 x6 x7
    obtain ⟨l1, l2⟩ := step_len (ps := ps) (s := s) (k := k)
    obtain ⟨z4, z5, z6, z7, ih⟩ := loop_eq ord ks (stepR ps s k) (some (.val (.int (k : Int)))) y5 y6 y7 (fun j hj => h1 j (List.mem_cons_of_mem _ hj)) (by omega) (by omega)
    refine ⟨z4, z5, z6, z7, ?_⟩
    rw [List.map_cons, forLoop]
    have hb : bindP (.nm 4) (.int (k : Int)) (ES ps ord s.1 s.2 x4 x5 x6 x7) = some (ES ps ord s.1 s.2 (some (.val (.int (k : Int)))) x5 x6 x7) := rfl
    rw [hb]
    dsimp only
    rw [e, bnd_ret]
    dsimp only
    rw [ih, List.foldl_cons]
theorem rooms_eq {ps : List (Int × Int)} (hp : ps.length ≤ 1000) : f_rooms_for [.tuple (ps.map twoD)] = some (.tuple ((finR ps).1.map PyData.int)) := by
  have pm : (sortIx ps).Perm (List.range ps.length) := List.mergeSort_perm _ _
  obtain ⟨y4, y5, y6, y7, h⟩ := loop_eq (ps := ps) (.list ((sortIx ps).map fun k : Nat => PyData.int (k : Int))) (sortIx ps) (List.replicate ps.length 0, []) none none none none (fun k hk => List.mem_range.mp (pm.mem_iff.mp hk)) List.length_replicate (by
    rw [pm.length_eq, List.length_range]
    simp
    omega)
  have h0 : startT 9 [.tuple (ps.map twoD)] = [some (.tabv (.tuple (ps.map twoD))), none, none, none, none, none, none, none, none] := rfl
  have hg : getB [some (.tabv (.tuple (ps.map twoD))), none, none, none, none, none, none, none, none] 0 = some ps := by
    unfold getB
    simp
  have hz : ps.length ≤ 1000000 := by omega
  have hr : repD (.list [.int 0]) (.int (ps.length : Int)) = some (List.replicate ps.length (.int 0)) := by
    have c : -9223372036854775808 ≤ (ps.length : Int) ∧ (ps.length : Int) < 9223372036854775808 ∧ [PyData.int 0].length * (ps.length : Int).toNat ≤ lim := by
      refine ⟨by omega, by omega, ?_⟩
      unfold lim
      simp
      omega
    unfold repD
    simp only
    rw [if_pos c]
    simp
  have hb : b_rooms_for = sSeq (sLam 0 1) (sSeq (sAsgF 2 (dOpF repD (dLst (dDisp (aCons (dC (.int 0)) aNil))) (dCallB lenD (aCons (dVar 0) aNil)))) (sSeq (sAsgF 3 (dDisp aNil)) (sSeq (sFor (itemsL (dVar 1)) (.nm 4) BT) (sRet (dCallB tupOfD (aCons (dVarL 2) aNil)))))) := rfl
  have hl : sLam 0 1 [some (.tabv (.tuple (ps.map twoD))), none, none, none, none, none, none, none, none] = ret (.nx [some (.val (.tuple (ps.map twoD))), some (.val (.list ((sortIx ps).map fun k : Nat => PyData.int (k : Int)))), none, none, none, none, none, none, none]) := by
    unfold sLam
    rw [hg]
    simp [hz]
  unfold f_rooms_for runT
  rw [h0, hb]
  rw [e_Seq, hl]
  simp only [ES, List.map_nil, List.map_replicate] at h
  simp [hr, lim, h, finR, ret_ap]
end LK

namespace LK
open PySem PySem.Spec PyProof.Rows L2 DL
/-! ### the greatest divisor -/
def gcdI (a b : Int) : Int := ((Nat.gcd a.natAbs b.natAbs : Nat) : Int)
theorem gcdI_pos {a b : Int} (h : 0 < b) : 0 < gcdI a b := by
  unfold gcdI
  have := Nat.gcd_pos_of_pos_right a.natAbs (show 0 < b.natAbs by omega)
  omega
theorem gcdI_step {x y : Int} (hx : 0 ≤ x) (hy : 0 < y) : gcdI y (x % y) = gcdI x y := by
  unfold gcdI
  have e : (x % y).natAbs = x.natAbs % y.natAbs := by
    rw [Int.natAbs_emod_of_nonneg hx]
  rw [e, Nat.gcd_comm x.natAbs y.natAbs, Nat.gcd_rec y.natAbs x.natAbs, Nat.gcd_comm]
theorem eu_loop (T : TM) (S : SM) (mkE : Int → Int → DL.Env) (hT : ∀ x y, T (mkE x y) = ret (decide (0 < y))) (hS : ∀ x y, 0 < y → S (mkE x y) = ret (.nx (mkE y (x % y)))) :
    ∀ (k fuel : Nat) (x y : Int), 0 ≤ x → 0 ≤ y → y < 2 ^ k → 2 * k + 1 ≤ fuel → whLoop T S fuel (mkE x y) = ret (.nx (mkE (gcdI x y) 0))
  | k, 0, x, y, _, _, _, h => by omega
  | k, fuel + 1, x, y, hx, hy, hk, hf => by
    by_cases h : 0 < y
    · have e1 : whLoop T S (fuel + 1) (mkE x y) = whLoop T S fuel (mkE y (x % y)) := by
        simp [whLoop, hT, hS, h]
      have r0 := Int.emod_nonneg x (show y ≠ 0 by omega)
      have r1 := Int.emod_lt_of_pos x h
      match k, fuel, hk, hf with
      | 0, fuel, hk, hf =>
        have : (2 : Int) ^ 0 = 1 := rfl
        omega
      | k + 1, 0, hk, hf => omega
      | k + 1, fuel + 1, hk, hf =>
        rw [e1, ← gcdI_step hx h]
        by_cases h2 : 0 < x % y
        · have e2 : whLoop T S (fuel + 1) (mkE y (x % y)) = whLoop T S fuel (mkE (x % y) (y % (x % y))) := by
            simp [whLoop, hT, hS, h2]
          have s0 := Int.emod_nonneg y (show x % y ≠ 0 by omega)
          have s1 := Int.emod_lt_of_pos y h2
          rw [e2, ← gcdI_step (by omega) h2]
          refine eu_loop T S mkE hT hS k fuel _ _ (by omega) s0 ?_ (by omega)
          have hp : (2 : Int) ^ (k + 1) = 2 ^ k * 2 := Int.pow_succ ..
          have hq : 2 * (y % (x % y)) ≤ y := by
            have d := Int.mul_ediv_add_emod y (x % y)
            have dq : 1 ≤ y / (x % y) := by
              rw [Int.le_ediv_iff_mul_le h2]
              omega
            have : x % y * 1 ≤ x % y * (y / (x % y)) := Int.mul_le_mul_of_nonneg_left dq (by omega)
            omega
          generalize (2 : Int) ^ k = z at *
          omega
        · have h3 : x % y = 0 := by omega
          have e2 : whLoop T S (fuel + 1) (mkE y (x % y)) = ret (.nx (mkE y (x % y))) := by
            simp [whLoop, hT, h2]
          rw [e2, h3]
          have e3 : gcdI y 0 = y := by
            unfold gcdI
            simp
            omega
          rw [e3]
    · have h0 : y = 0 := by omega
      subst h0
      have e3 : gcdI x 0 = x := by
        unfold gcdI
        simp
        omega
      simp [whLoop, hT, e3]
theorem gcdI_abs (a b : Int) : gcdI (if a < 0 then -a else a) (if b < 0 then -b else b) = gcdI a b := by
  unfold gcdI
  have e : ∀ z : Int, (if z < 0 then -z else z).natAbs = z.natAbs := fun z => by split <;> omega
  rw [e, e]
theorem common_eq (a b : Int) (h : b.natAbs < 2 ^ 400) : f_common [.int a, .int b] = some (.int (gcdI a b)) := by
  have hb : (if b < 0 then -b else b) < 2 ^ 400 := by
    have : ((b.natAbs : Nat) : Int) < ((2 ^ 400 : Nat) : Int) := by exact_mod_cast h
    rw [show (((2 : Nat) ^ 400 : Nat) : Int) = (2 : Int) ^ 400 by exact_mod_cast rfl] at this
    generalize (2 : Int) ^ 400 = z at *
    split <;> omega
  have hl := eu_loop (tOf (dOp gtD (dVar 1) (dC (.int 0)))) (sPar 0 1 (aCons (dVar 1) (aCons (dOp modD (dVar 0) (dVar 1)) aNil))) (fun x y => [some (.val (.int x)), some (.val (.int y))])
    (fun x y => by simp) (fun x y hy => by simp [hy]) 400 1000 (if a < 0 then -a else a) (if b < 0 then -b else b) (by split <;> omega) (by split <;> omega) hb (by decide)
  rw [gcdI_abs] at hl
  unfold f_common runF b_common startE
  simp [hl, ret_ap]
theorem gcdI_le {a b : Int} (h : 0 < b) : gcdI a b ≤ b := by
  unfold gcdI
  have := Nat.le_of_dvd (show 0 < b.natAbs by omega) (Nat.gcd_dvd_right a.natAbs b.natAbs)
  omega
theorem gcdI_dvd (a b : Int) : gcdI a b ∣ a ∧ gcdI a b ∣ b := by
  unfold gcdI
  exact ⟨Int.natAbs_dvd_natAbs.mp (by simpa using Nat.gcd_dvd_left a.natAbs b.natAbs), Int.natAbs_dvd_natAbs.mp (by simpa using Nat.gcd_dvd_right a.natAbs b.natAbs)⟩
theorem gcdI_mul {k : Int} (hk : 0 < k) (a b : Int) : gcdI (k * a) (k * b) = k * gcdI a b := by
  unfold gcdI
  rw [Int.natAbs_mul, Int.natAbs_mul, Nat.gcd_mul_left, Int.natCast_mul]
  congr 1
  omega
def rd (a b : Int) : PyData := .tuple [.int (a / gcdI a b), .int (b / gcdI a b)]
theorem rd_scale {k : Int} (hk : 0 < k) (a b : Int) : rd (k * a) (k * b) = rd a b := by
  unfold rd
  rw [gcdI_mul hk, Int.mul_ediv_mul_of_pos _ _ hk, Int.mul_ediv_mul_of_pos _ _ hk]
theorem rd_eq {a b c d : Int} (hb : 0 < b) (hd : 0 < d) (e : a * d = c * b) : rd a b = rd c d := by
  rw [← rd_scale hd a b, ← rd_scale hb c d]
  rw [Int.mul_comm d a, e, Int.mul_comm c b, Int.mul_comm d b]
/-- what stands in it -/
theorem rd_out {a b : Int} (ha : 0 ≤ a) (hb : 0 < b) : ∃ g x y : Int, 0 < g ∧ 0 < y ∧ 0 ≤ x ∧ a = g * x ∧ b = g * y ∧ x ≤ a ∧ y ≤ b ∧ rd a b = .tuple [.int x, .int y] := by
  have hg := gcdI_pos (a := a) hb
  obtain ⟨⟨x, hx⟩, ⟨y, hy⟩⟩ := gcdI_dvd a b
  have ex : a / gcdI a b = x := by
    rw [Int.ediv_eq_of_eq_mul_right (by omega) hx]
  have ey : b / gcdI a b = y := by
    rw [Int.ediv_eq_of_eq_mul_right (by omega) hy]
  have y0 : 0 < y := by
    refine Int.not_le.mp fun h => ?_
    have := Int.mul_nonpos_of_nonneg_of_nonpos (Int.le_of_lt hg) h
    omega
  have x0 : 0 ≤ x := by
    refine Int.not_lt.mp fun h2 => ?_
    have := Int.mul_neg_of_pos_of_neg hg h2
    omega
  refine ⟨gcdI a b, x, y, hg, y0, x0, hx, hy, ?_, ?_, ?_⟩
  · have : 1 * x ≤ gcdI a b * x := Int.mul_le_mul_of_nonneg_right (by omega) x0
    omega
  · have : 1 * y ≤ gcdI a b * y := Int.mul_le_mul_of_nonneg_right (by omega) (by omega)
    omega
  · unfold rd
    rw [ex, ey]
/-! ### the functions -/
theorem small_pow {b : Int} (h0 : 0 ≤ b) (h : b ≤ 100000000) : b.natAbs < 2 ^ 400 := Nat.lt_of_lt_of_le (show b.natAbs < 2 ^ 27 by omega) (Nat.pow_le_pow_right (by decide) (by decide))
theorem measure_eq {a b : Int} (ha : 0 ≤ a) (h0 : 0 ≤ b) (h : b ≤ 100000000) : f__law_measure [.int a, .int b] = some (.int (gcdI a b)) := by
  have hb : b < 2 ^ 400 := by
    have : ((b.natAbs : Nat) : Int) < ((2 ^ 400 : Nat) : Int) := by exact_mod_cast small_pow h0 h
    rw [show (((2 : Nat) ^ 400 : Nat) : Int) = (2 : Int) ^ 400 by exact_mod_cast rfl] at this
    generalize (2 : Int) ^ 400 = z at *
    omega
  have hl := eu_loop (tOf (dOp gtD (dVar 1) (dC (.int 0)))) (sPar 0 1 (aCons (dVar 1) (aCons (dOp modD (dVar 0) (dVar 1)) aNil))) (fun x y => [some (.val (.int x)), some (.val (.int y))])
    (fun x y => by simp) (fun x y hy => by simp [hy]) 400 1000 a b ha h0 hb (by decide)
  unfold f__law_measure runF b__law_measure startE
  simp [hl, ret_ap]
def lcmI (a b : Int) : Int := a / gcdI a b * b
theorem lcm_facts {a b M : Int} (ha : 0 < a) (hb : 2 ≤ b ∧ b ≤ 9) (hM : a ≤ M) : 0 < lcmI a b ∧ lcmI a b ≤ 9 * M ∧ a ∣ lcmI a b ∧ b ∣ lcmI a b ∧ a * b / gcdI a b = lcmI a b ∧ a / gcdI a b ≤ M ∧ 0 ≤ a / gcdI a b := by
  have hg := gcdI_pos (a := a) (show 0 < b by omega)
  obtain ⟨⟨x, hx⟩, ⟨y, hy⟩⟩ := gcdI_dvd a b
  have ex : a / gcdI a b = x := by
    rw [Int.ediv_eq_of_eq_mul_right (by omega) hx]
  have x0 : 0 < x := by
    refine Int.not_le.mp fun h => ?_
    have := Int.mul_nonpos_of_nonneg_of_nonpos (Int.le_of_lt hg) h
    omega
  have xa : x ≤ a := by
    have : 1 * x ≤ gcdI a b * x := Int.mul_le_mul_of_nonneg_right (by omega) (by omega)
    omega
  unfold lcmI
  rw [ex]
  refine ⟨Int.mul_pos x0 (by omega), ?_, ⟨y, ?_⟩, ⟨x, Int.mul_comm _ _⟩, ?_, by omega, by omega⟩
  · have : x * b ≤ x * 9 := Int.mul_le_mul_of_nonneg_left hb.2 (by omega)
    omega
  · calc x * b = x * (gcdI a b * y) := by rw [← hy]
      _ = (gcdI a b * x) * y := by ac_rfl
      _ = a * y := by rw [← hx]
  · refine Int.ediv_eq_of_eq_mul_right (by omega) ?_
    calc a * b = (gcdI a b * x) * b := by rw [← hx]
      _ = gcdI a b * (x * b) := by ac_rfl
theorem mul_ok {v w : Int} (h0 : 0 ≤ v) (h : v ≤ 100000000) : mulD (.int v) (.int w) = some (.int (v * w)) := by
  rw [DL.v_mul, if_pos (.inl ⟨by omega, by omega⟩)]
theorem div_ok {v w : Int} (h0 : 0 < w) (h : w ≤ 100000000) : fdivD (.int v) (.int w) = some (.int (v / w)) := by
  rw [DL.v_fdiv, if_pos ⟨h0, by omega⟩]
theorem together_eq {a b : Int} (ha : 0 < a) (hM : a ≤ 100000000) (hb : 2 ≤ b ∧ b ≤ 9) : f_together [.int a, .int b] = some (.int (lcmI a b)) := by
  have hc := common_eq a b (small_pow (by omega) (by omega))
  have hg := gcdI_pos (a := a) (show 0 < b by omega)
  have hl := gcdI_le (a := a) (show 0 < b by omega)
  obtain ⟨_, _, _, _, _, f1, f2⟩ := lcm_facts ha hb hM
  have d := div_ok (v := a) hg (by omega)
  have m := mul_ok (w := b) f2 f1
  unfold f_together runF b_together startE lcmI
  simp only [DL.e_Ret, DL.e_Op, DL.e_CallB, DL.e_aCons, DL.e_aNil]
  simp only [DL.e_Var, DL.e_getV]
  simp [hc, d, m, ret_ap, -DL.v_fdiv, -DL.v_mul]
theorem fraction_eq {a b : Int} (hb : 0 < b) (h2 : b ≤ 100000000) : f_fraction [.int a, .int b] = some (rd a b) := by
  have hg := gcdI_pos (a := a) hb
  have hl := gcdI_le (a := a) hb
  have hc := common_eq a b (small_pow (by omega) h2)
  have d1 := div_ok (v := a) hg (by omega)
  have d2 := div_ok (v := b) hg (by omega)
  unfold f_fraction runF b_fraction startE rd
  simp [hc, d1, d2, lim, ret_ap, -DL.v_fdiv]
theorem least_eq {a b : Int} (hb : 0 < b) (h2 : b ≤ 100000000) : f__law_least [.int a, .int b] = some (rd a b) := by
  have hg := gcdI_pos (a := a) hb
  have hl0 := gcdI_le (a := a) hb
  have d1 := div_ok (v := a) hg (by omega)
  have d2 := div_ok (v := b) hg (by omega)
  have hb' : (if b < 0 then -b else b) < 2 ^ 400 := by
    have : ((b.natAbs : Nat) : Int) < ((2 ^ 400 : Nat) : Int) := by exact_mod_cast small_pow (by omega) h2
    rw [show (((2 : Nat) ^ 400 : Nat) : Int) = (2 : Int) ^ 400 by exact_mod_cast rfl] at this
    generalize (2 : Int) ^ 400 = z at *
    split <;> omega
  have hl := eu_loop (tOf (dOp gtD (dVar 3) (dC (.int 0)))) (sPar 2 3 (aCons (dVar 3) (aCons (dOp modD (dVar 2) (dVar 3)) aNil))) (fun x y => [some (.val (.int a)), some (.val (.int b)), some (.val (.int x)), some (.val (.int y))])
    (fun x y => by simp) (fun x y hy => by simp [hy]) 400 1000 (if a < 0 then -a else a) (if b < 0 then -b else b) (by split <;> omega) (by split <;> omega) hb' (by decide)
  rw [gcdI_abs] at hl
  unfold f__law_least runF b__law_least startE rd
  simp [hl, hb, d1, d2, lim, ret_ap, -DL.v_fdiv]
/-- a sum of fractions -/
theorem added_eq {a b e l M : Int} (ha : 0 ≤ a) (hb : 0 < b) (aM : a ≤ M) (bM : b ≤ M) (hM : 100 * M ≤ 100000000) (he : 2 ≤ e ∧ e ≤ 9) (hl : 1 ≤ l ∧ l ≤ 3) :
    f_added [rd a b, rd l e] = some (rd (a * e + l * b) (b * e)) ∧ 0 ≤ a * e + l * b ∧ a * e + l * b ≤ 100 * M ∧ 0 < b * e ∧ b * e ≤ 100 * M := by
  have q1 : a * e ≤ a * 9 := Int.mul_le_mul_of_nonneg_left he.2 ha
  have q2 : l * b ≤ 3 * b := Int.mul_le_mul_of_nonneg_right hl.2 (by omega)
  have q3 : 0 ≤ a * e := Int.mul_nonneg ha (by omega)
  have q4 : 0 ≤ l * b := Int.mul_nonneg (by omega) (by omega)
  have q5 : b * e ≤ b * 9 := Int.mul_le_mul_of_nonneg_left he.2 (by omega)
  have q6 : 0 < b * e := Int.mul_pos hb (by omega)
  refine ⟨?_, by omega, by omega, q6, by omega⟩
  obtain ⟨g, x, y, hg, hy, hx, e1, e2, x1, y1, e3⟩ := rd_out ha hb
  obtain ⟨h, u, v, hh, hv, hu, e4, e5, u1, v1, e6⟩ := rd_out (a := l) (b := e) (by omega) (by omega)
  have m1 := mul_ok (w := v) hx (by omega)
  have m2 := mul_ok (w := y) hu (by omega)
  have m3 := mul_ok (v := y) (w := v) (by omega) (by omega)
  have p1 : y * v ≤ y * 9 := Int.mul_le_mul_of_nonneg_left (by omega) (by omega)
  have f := fraction_eq (a := x * v + u * y) (b := y * v) (Int.mul_pos hy hv) (by omega)
  have fin : rd (a * e + l * b) (b * e) = rd (x * v + u * y) (y * v) := by
    rw [e1, e2, e4, e5, show (g * x) * (h * v) + (h * u) * (g * y) = (g * h) * (x * v + u * y) by rw [Int.mul_add]; ac_rfl, show (g * y) * (h * v) = (g * h) * (y * v) by ac_rfl]
    exact rd_scale (Int.mul_pos hg hh) _ _
  rw [fin, e3, e6]
  unfold f_added runF b_added startE
  simp [m1, m2, m3, f, ret_ap, -DL.v_mul]
end LK

namespace LK
open PySem PySem.Spec PyProof.Rows L2 DL
abbrev TaskOk (q : Int × Int) : Prop := (2 ≤ q.1 ∧ q.1 ≤ 9) ∧ 1 ≤ q.2 ∧ q.2 ≤ 3
def Wf (W : Int) (rs : List (Int × Int)) : Int := rs.foldl (fun w q => lcmI w q.1) W
theorem wf_facts : ∀ (rs : List (Int × Int)) (W M : Int), 0 < W → W ≤ M → M * 100 ^ rs.length ≤ 100000000 → (∀ q ∈ rs, TaskOk q) → 0 < Wf W rs ∧ Wf W rs ≤ 100000000 ∧ W ∣ Wf W rs ∧ ∀ q ∈ rs, q.1 ∣ Wf W rs
  | [], W, M, h0, h1, h2, _ => ⟨h0, by simp at h2; show W ≤ _; omega, Int.dvd_refl _, fun q h => nomatch h⟩
  | q :: rs, W, M, h0, h1, h2, h3 => by
    obtain ⟨f0, f1, f2, f3, _⟩ := lcm_facts (M := M) h0 (h3 q List.mem_cons_self).1 h1
    have h2' : (100 * M) * 100 ^ rs.length ≤ 100000000 := by
      rw [List.length_cons, Int.pow_succ] at h2
      calc (100 * M) * 100 ^ rs.length = M * (100 ^ rs.length * 100) := by ac_rfl
        _ ≤ _ := h2
    obtain ⟨i0, i1, i2, i3⟩ := wf_facts rs (lcmI W q.1) (100 * M) f0 (by omega) h2' fun z hz => h3 z (List.mem_cons_of_mem _ hz)
    refine ⟨i0, i1, Int.dvd_trans f2 i2, fun z hz => ?_⟩
    rcases List.mem_cons.mp hz with rfl | hz
    · exact Int.dvd_trans f3 i2
    · exact i3 z hz
theorem m_small {M : Int} {n : Nat} (hM : 0 < M) (h : M * 100 ^ (n + 1) ≤ 100000000) : 100 * M ≤ 100000000 ∧ (100 * M) * 100 ^ n ≤ 100000000 := by
  have e : M * 100 ^ (n + 1) = (100 * M) * 100 ^ n := by
    rw [Int.pow_succ]
    ac_rfl
  rw [e] at h
  have p : (0 : Int) < 100 ^ n := Int.pow_pos (by decide)
  have : (100 * M) * 1 ≤ (100 * M) * 100 ^ n := Int.mul_le_mul_of_nonneg_left (by omega) (by omega)
  omega
/-- nothing that changes -/
abbrev NM (x : Option En) : Prop := x = none ∨ ∃ d, x = some (.val d)
/-- the law's own loop -/
theorem law_loop (e0 e1 e2 e3 e5 e8 e9 e10 e11 e12 : Option En) : ∀ (rs : List (Int × Int)) (W M : Int) (x6 x7 : Option En), NM x6 → NM x7 → 0 < W → W ≤ M → M * 100 ^ rs.length ≤ 100000000 → (∀ q ∈ rs, TaskOk q) →
    ∃ y6 y7, NM y6 ∧ NM y7 ∧ forLoop (.tp [(.nm 6), (.nm 7)]) (sAsg (.nm 4) (dOp fdivD (dOp mulD (dVar 4) (dVar 6)) (dCallB f__law_measure (aCons (dVar 4) (aCons (dVar 6) aNil))))) (rs.map twoD) [e0, e1, e2, e3, some (.val (.int W)), e5, x6, x7, e8, e9, e10, e11, e12]
      = ret (.nx [e0, e1, e2, e3, some (.val (.int (Wf W rs))), e5, y6, y7, e8, e9, e10, e11, e12])
  | [], W, M, x6, x7, m6, m7, _, _, _, _ => ⟨x6, x7, m6, m7, rfl⟩
  | q :: rs, W, M, x6, x7, m6, m7, h0, h1, h2, h3 => by
    have hq := (h3 q List.mem_cons_self).1
    obtain ⟨f0, f1, f2, f3, f4, _⟩ := lcm_facts (M := M) h0 hq h1
    obtain ⟨m1, m2⟩ := m_small (M := M) (by omega) h2
    obtain ⟨y6, y7, n6, n7, ih⟩ := law_loop e0 e1 e2 e3 e5 e8 e9 e10 e11 e12 rs (lcmI W q.1) (100 * M) (some (.val (.int q.1))) (some (.val (.int q.2))) (.inr ⟨_, rfl⟩) (.inr ⟨_, rfl⟩) f0 (by omega) m2 fun z hz => h3 z (List.mem_cons_of_mem _ hz)
    have hm := measure_eq (a := W) (b := q.1) (by omega) (by omega) (by omega)
    have hg := gcdI_pos (a := W) (show 0 < q.1 by omega)
    have hl := gcdI_le (a := W) (show 0 < q.1 by omega)
    have mm := mul_ok (v := W) (w := q.1) (by omega) (by omega)
    have dd := div_ok (v := W * q.1) hg (by omega)
    rw [f4] at dd
    refine ⟨y6, y7, n6, n7, ?_⟩
    rw [List.map_cons, forLoop]
    simp only [twoD, e_bindTp, e_bindCons, e_bindNm, e_bindNil]
    simp [hm, mm, dd, -DL.v_mul, -DL.v_fdiv]
    exact ih
/-- rounds_fit's loop -/
def BF : SM := (sSeq (sAsg (.nm 1) (dCallB f_added (aCons (dVar 1) (aCons (dCallB f_fraction (aCons (dVar 4) (aCons (dVar 3) aNil))) aNil))))
  (sAsg (.nm 2) (dCallB f_together (aCons (dVar 2) (aCons (dVar 3) aNil)))))
theorem rf_loop (T : Option En) : ∀ (rs : List (Int × Int)) (A B W M : Int) (x3 x4 : Option En), 0 ≤ A → A ≤ M → 0 < B → B ≤ M → 0 < W → W ≤ M → M * 100 ^ rs.length ≤ 100000000 → (∀ q ∈ rs, TaskOk q) →
    ∃ A' B' y3 y4, forLoop (.tp [(.nm 3), (.nm 4)]) BF (rs.map twoD) [T, some (.val (rd A B)), some (.val (.int W)), x3, x4] = ret (.nx [T, some (.val (rd A' B')), some (.val (.int (Wf W rs))), y3, y4]) ∧ 0 < B' ∧
      ∀ V S : Int, (∀ q ∈ rs, q.1 ∣ V) → A * V = B * S → A' * V = B' * (S + (rs.map fun q => V / q.1 * q.2).sum)
  | [], A, B, W, M, x3, x4, _, _, hB, _, _, _, _, _ => ⟨A, B, x3, x4, rfl, hB, fun V S _ h => by simpa using h⟩
  | q :: rs, A, B, W, M, x3, x4, a0, a1, b0, b1, w0, w1, h2, h3 => by
    obtain ⟨hq, hl⟩ := h3 q List.mem_cons_self
    obtain ⟨f0, f1, _⟩ := lcm_facts (M := M) w0 hq w1
    obtain ⟨m1, m2⟩ := m_small (M := M) (by omega) h2
    obtain ⟨g0, g1, g2, g3, g4⟩ := added_eq a0 b0 a1 b1 m1 hq hl
    obtain ⟨A', B', y3, y4, ih, hB, hV⟩ := rf_loop T rs (A * q.1 + q.2 * B) (B * q.1) (lcmI W q.1) (100 * M) (some (.val (.int q.1))) (some (.val (.int q.2))) g1 g2 g3 g4 f0 (by omega) m2 fun z hz => h3 z (List.mem_cons_of_mem _ hz)
    have ff := fraction_eq (a := q.2) (b := q.1) (by omega) (by omega)
    have tt := together_eq w0 (by omega) hq
    refine ⟨A', B', y3, y4, ?_, hB, fun V S hd e => ?_⟩
    · rw [List.map_cons, forLoop]
      unfold BF at ih ⊢
      simp only [twoD, e_bindTp, e_bindCons, e_bindNm, e_bindNil]
      simp [ff, g0, tt]
      exact ih
    · obtain ⟨c, hc⟩ := hd q List.mem_cons_self
      have hv : V / q.1 = c := by rw [Int.ediv_eq_of_eq_mul_right (by omega) hc]
      have := hV V (S + c * q.2) (fun z hz => hd z (List.mem_cons_of_mem _ hz)) (by
        calc (A * q.1 + q.2 * B) * V = A * V * q.1 + q.2 * B * V := by rw [Int.add_mul]; congr 1; ac_rfl
          _ = B * S * q.1 + q.2 * B * (q.1 * c) := by rw [e, ← hc]
          _ = B * q.1 * (S + c * q.2) := by rw [Int.mul_add]; congr 1 <;> ac_rfl)
      rw [this, List.map_cons, List.sum_cons, hv]
      congr 1
      omega
theorem eqS (n : Int) : eqD (.tuple [.str "yes", .int n]) (.tuple [.str "yes", .int n]) = some (.bool true) := by
  have e : eqD (.tuple [.str "yes", .int n]) (.tuple [.str "yes", .int n]) = some (.bool (PyData.eqv (.str "yes") (.str "yes") && (PyData.eqv (.int n) (.int n) && true))) := by kernel_rfl
  rw [e]
  have e2 : PyData.eqv (.str "yes") (.str "yes") = true := by kernel_rfl
  rw [e2, eqv_int]
  simp
theorem eqS2 (a b : Int) : eqD (.tuple [.str "no", .tuple [.int a, .int b]]) (.tuple [.str "no", .tuple [.int a, .int b]]) = some (.bool true) := by
  have e : eqD (.tuple [.str "no", .tuple [.int a, .int b]]) (.tuple [.str "no", .tuple [.int a, .int b]]) = some (.bool (PyData.eqv (.str "no") (.str "no") && (PyData.eqv (.tuple [.int a, .int b]) (.tuple [.int a, .int b]) && true))) := by kernel_rfl
  rw [e]
  have e2 : PyData.eqv (.str "no") (.str "no") = true := by kernel_rfl
  have e3 : PyData.eqv (.tuple [.int a, .int b]) (.tuple [.int a, .int b]) = true := by
    have := eqvI [a, b] [a, b]
    simp only [List.map_cons, List.map_nil] at this
    rw [PyData.eqv, this]
    simp
  rw [e2, e3]
  rfl
/-- the shares -/
def upI (V : Int) (rs : List (Int × Int)) : Int := (rs.map fun q => V / q.1 * q.2).sum
theorem up_nn {V : Int} (hV : 0 < V) : ∀ rs : List (Int × Int), (∀ q ∈ rs, TaskOk q) → 0 ≤ upI V rs
  | [], _ => Int.le_refl _
  | q :: rs, h => by
    have ih := up_nn hV rs fun z hz => h z (List.mem_cons_of_mem _ hz)
    obtain ⟨hq, hl⟩ := h q List.mem_cons_self
    unfold upI at *
    rw [List.map_cons, List.sum_cons]
    have : 0 ≤ V / q.1 * q.2 := Int.mul_nonneg (Int.ediv_nonneg (by omega) (by omega)) (by omega)
    omega
theorem rounds_eq {qs : List (Int × Int)} (hl : qs.length ≤ 3) (hq : ∀ q ∈ qs, TaskOk q) : f_rounds_fit [.tuple (qs.map twoD)] = some (if upI (Wf 1 qs) qs ≤ Wf 1 qs then .tuple [.str "yes", .int (Wf 1 qs)] else .tuple [.str "no", rd (upI (Wf 1 qs) qs) (Wf 1 qs)]) := by
  have hp : (1 : Int) * 100 ^ qs.length ≤ 100000000 := by
    rcases (show qs.length = 0 ∨ qs.length = 1 ∨ qs.length = 2 ∨ qs.length = 3 by omega) with e | e | e | e <;> rw [e] <;> decide
  obtain ⟨w0, w1, _, w3⟩ := wf_facts qs 1 1 (by decide) (by decide) hp hq
  obtain ⟨A', B', y3, y4, h, hB, hV⟩ := rf_loop (some (.val (.tuple (qs.map twoD)))) qs 0 1 1 1 none none (by decide) (by decide) (by decide) (by decide) (by decide) (by decide) hp hq
  have e := hV (Wf 1 qs) 0 w3 (by omega)
  rw [Int.zero_add] at e
  have er : rd A' B' = rd (upI (Wf 1 qs) qs) (Wf 1 qs) := rd_eq hB w0 (by rw [e]; exact Int.mul_comm _ _)
  rw [er] at h
  have u0 := up_nn w0 qs hq
  generalize upI (Wf 1 qs) qs = U at *
  generalize Wf 1 qs = V at *
  have z : PyData.tuple [.int 0, .int 1] = rd 0 1 := by
    have : gcdI 0 1 = 1 := by decide
    unfold rd
    rw [this]
    rfl
  obtain ⟨g, x, y, hg, hy, hx, e1, e2, _, _, e3⟩ := rd_out u0 w0
  have hc : x ≤ y ↔ U ≤ V := by
    rw [e1, e2]
    exact ⟨fun h => Int.mul_le_mul_of_nonneg_left h (by omega), fun h => Int.le_of_mul_le_mul_left h hg⟩
  unfold BF at h
  unfold f_rounds_fit runF b_rounds_fit startE
  rw [e3] at h ⊢
  by_cases c : U ≤ V
  · have c2 := hc.mpr c
    simp [z, h, c, c2, lim, ret_ap]
  · have c2 : ¬ x ≤ y := fun h => c (hc.mp h)
    simp [z, h, c, c2, lim, ret_ap]
theorem sum_lc (W : Int) (e0 e1 e2 e3 e5 e8 e9 e10 e11 e12 : Option En) (hW : 0 < W) (hM : W ≤ 100000000) : ∀ rs : List (Int × Int), (∀ q ∈ rs, TaskOk q) →
    lcLoop (.tp [(.nm 6), (.nm 7)]) tTrue (dOp mulD (dOp fdivD (dVar 4) (dVar 6)) (dVar 7)) [e0, e1, e2, e3, some (.val (.int W)), e5, none, none, e8, e9, e10, e11, e12] (rs.map twoD) = ret ((rs.map fun q => W / q.1 * q.2).map PyData.int)
  | [], _ => rfl
  | q :: rs, h => by
    have ih := sum_lc W e0 e1 e2 e3 e5 e8 e9 e10 e11 e12 hW hM rs fun z hz => h z (List.mem_cons_of_mem _ hz)
    obtain ⟨hq, hl⟩ := h q List.mem_cons_self
    have d := div_ok (v := W) (w := q.1) (by omega) (by omega)
    have d1 : 0 ≤ W / q.1 := Int.ediv_nonneg (by omega) (by omega)
    have d2 : W / q.1 ≤ W := Int.ediv_le_self _ (by omega)
    have m := mul_ok (v := W / q.1) (w := q.2) d1 (by omega)
    rw [List.map_cons, lcLoop]
    simp only [twoD, e_bindTp, e_bindCons, e_bindNm, e_bindNil]
    simp [d, m, -DL.v_mul, -DL.v_fdiv]
    rw [ih]
    simp
end LK

namespace LK
open PySem PySem.Spec PyProof.Rows L2 DL
/-! ### the draws -/
theorem dr_x {ws : List Int} (hd : Dr ws) : ∀ (ds : List PyData) (n : Nat), ∃ (xs : List Int) (n' : Nat), lcLoop (.nm 10) tTrue (dCallW f__law_next 0 (aCons (dC (.int 15)) aNil)) [some (.wdr (.draws ws)), none, none, none, none, none, none, none, none, none, none, none, none] ds n = some (xs.map PyData.int, n') ∧ xs.length = ds.length ∧ ∀ x ∈ xs, 0 ≤ x ∧ x < 15
  | [], n => ⟨[], n, rfl, rfl, fun x h => nomatch h⟩
  | d :: ds, n => by
    obtain ⟨xs, n', h, hl, hx⟩ := dr_x hd ds (n + 1)
    obtain ⟨h0, h1, _⟩ := nx_rng hd n (m := 15) (by decide)
    refine ⟨nx ws n 15 :: xs, n', ?_, by simp [hl], fun x hm => ?_⟩
    · rw [lcLoop]
      simp
      rw [bnd_next (by decide), bnd_of h]
      rfl
    · rcases List.mem_cons.mp hm with rfl | hm
      · exact ⟨h0, h1⟩
      · exact hx x hm
theorem dr_p {ws : List Int} (hd : Dr ws) : ∀ (xs : List Int), (∀ x ∈ xs, 0 ≤ x ∧ x < 15) → ∀ n : Nat, ∃ (ps : List (Int × Int)) (n' : Nat), lcLoop (.nm 9) tTrue (dTup (aCons (dVar 9) (aCons (dOp addD (dOp addD (dVar 9) (dC (.int 1))) (dCallW f__law_next 0 (aCons (dC (.int 6)) aNil))) aNil))) [some (.wdr (.draws ws)), none, none, none, none, none, none, none, none, none, none, none, none] (xs.map PyData.int) n = some (ps.map twoD, n') ∧ ps.length = xs.length ∧ ∀ p ∈ ps, 0 ≤ p.1 ∧ p.1 < 15 ∧ p.1 < p.2
  | [], _, n => ⟨[], n, rfl, rfl, fun x h => nomatch h⟩
  | x :: xs, hx, n => by
    obtain ⟨ps, n', h, hl, hp⟩ := dr_p hd xs (fun y hy => hx y (List.mem_cons_of_mem _ hy)) (n + 1)
    obtain ⟨h0, h1, _⟩ := nx_rng hd n (m := 6) (by decide)
    obtain ⟨x0, x1⟩ := hx x List.mem_cons_self
    refine ⟨(x, x + 1 + nx ws n 6) :: ps, n', ?_, by simp [hl], fun p hm => ?_⟩
    · rw [List.map_cons, lcLoop]
      simp [lim]
      rw [bnd_next (by decide)]
      simp
      rw [bnd_of h]
      rfl
    · rcases List.mem_cons.mp hm with rfl | hm
      · exact ⟨x0, x1, show x < x + 1 + nx ws n 6 by omega⟩
      · exact hp p hm
theorem dr_t {ws : List Int} (hd : Dr ws) (e1 e2 : Option En) : ∀ (ds : List PyData) (n : Nat), ∃ (qs : List (Int × Int)) (n' : Nat), lcLoop (.nm 10) tTrue (dTup (aCons (dOp addD (dC (.int 2)) (dCallW f__law_next 0 (aCons (dC (.int 8)) aNil))) (aCons (dOp addD (dC (.int 1)) (dCallW f__law_next 0 (aCons (dC (.int 3)) aNil))) aNil))) [some (.wdr (.draws ws)), e1, e2, none, none, none, none, none, none, none, none, none, none] ds n = some (qs.map twoD, n') ∧ qs.length = ds.length ∧ ∀ q ∈ qs, TaskOk q
  | [], n => ⟨[], n, rfl, rfl, fun x h => nomatch h⟩
  | d :: ds, n => by
    obtain ⟨qs, n', h, hl, hq⟩ := dr_t hd e1 e2 ds (n + 1 + 1)
    obtain ⟨h0, h1, _⟩ := nx_rng hd n (m := 8) (by decide)
    obtain ⟨h2, h3, _⟩ := nx_rng hd (n + 1) (m := 3) (by decide)
    refine ⟨(2 + nx ws n 8, 1 + nx ws (n + 1) 3) :: qs, n', ?_, by simp [hl], fun q hm => ?_⟩
    · rw [lcLoop]
      simp [lim]
      rw [bnd_next (by decide)]
      simp
      rw [bnd_next (by decide)]
      simp
      rw [bnd_of h]
      rfl
    · rcases List.mem_cons.mp hm with rfl | hm
      · exact ⟨⟨show 2 ≤ 2 + nx ws n 8 by omega, show 2 + nx ws n 8 ≤ 9 by omega⟩, show 1 ≤ 1 + nx ws (n + 1) 3 by omega, show 1 + nx ws (n + 1) 3 ≤ 3 by omega⟩
      · exact hq q hm
/-! ### how many meet -/
theorem own_lc (t : Int) (e0 e1 : Option En) : ∀ ps : List (Int × Int), lcLoop (.nm 12) (tOf (dChain leD ltD (dOp ixD (dVar 12) (dC (.int 0))) (dVar 11) (dOp ixD (dVar 12) (dC (.int 1))))) (dVar 12) [e0, e1, none, none, none, none, none, none, none, none, none, some (.val (.int t)), none] (ps.map twoD) = ret ((ps.filter fun p => decide (p.1 ≤ t ∧ t < p.2)).map twoD)
  | [] => rfl
  | p :: ps => by
    have ih := own_lc t e0 e1 ps
    rw [List.map_cons, lcLoop, e_bindNm]
    dsimp only
    by_cases c : p.1 ≤ t
    · by_cases c2 : t < p.2
      · rw [List.filter_cons, if_pos (decide_eq_true ⟨c, c2⟩)]
        simp [twoD, c, c2]
        rw [ih]
        simp
      · rw [List.filter_cons, if_neg (by simp [c2])]
        simp [twoD, c, c2]
        rw [ih]
        simp
    · rw [List.filter_cons, if_neg (by simp [c])]
      simp [twoD, c]
      rw [ih]
      simp
theorem meet_lc (ps : List (Int × Int)) (hp : ps.length ≤ 1000) (e0 : Option En) : lcLoop (.nm 11) tTrue (dCallB lenD (aCons (dLst (dLc (itemsT (dVar 1)) (.nm 12) (tOf (dChain leD ltD (dOp ixD (dVar 12) (dC (.int 0))) (dVar 11) (dOp ixD (dVar 12) (dC (.int 1))))) (dVar 12) [12])) aNil)) [e0, some (.val (.tuple (ps.map twoD))), none, none, none, none, none, none, none, none, none, none, none] (rangeD 0 25) = ret (((List.range 25).map fun t : Nat => ((cnt ps (t : Int) : Nat) : Int)).map PyData.int) := by
  rw [lcLoop_range (fun _ => true) (fun t => .int ((cnt ps t : Nat) : Int)) fun t _ _ => ⟨_, rfl, by simp, fun _ => ?_⟩]
  · congr 1
  · have h := own_lc t e0 (some (.val (.tuple (ps.map twoD)))) ps
    have hl : ps.length ≤ 16000000 := by omega
    have hc := cnt_eq ps t
    have hc2 : (ps.filter fun p => decide (p.1 ≤ t) && decide (t < p.2)).length = cnt ps t := by simpa using hc
    simp [h, hl, lim, hc2]
theorem hold_ok : HoldOk f__law_holds := by
  intro ws hd n
  unfold f__law_holds runW b__law_holds
  rw [show startW 13 (.draws ws) [] = [some (.wdr (.draws ws)), none, none, none, none, none, none, none, none, none, none, none, none] from rfl]
  -- the pairs
  obtain ⟨k0, k1, _⟩ := nx_rng hd n (m := 8) (by decide)
  obtain ⟨xs, n1, hx, xl, xr⟩ := dr_x hd (rangeD 0 (nx ws n 8)) (n + 1)
  obtain ⟨ps, n2, hp, pl, pr⟩ := dr_p hd xs xr n1
  rw [rangeD_len] at xl
  have pl7 : ps.length ≤ 7 := by omega
  have s1 : sAsg (.nm 1) (dCallB tupOfD (aCons (dLst (dLc (itemsL (dLst (dLc (itemsR1 (dCallW f__law_next 0 (aCons (dC (.int 8)) aNil))) (.nm 10) tTrue (dCallW f__law_next 0 (aCons (dC (.int 15)) aNil)) [10]))) (.nm 9) tTrue (dTup (aCons (dVar 9) (aCons (dOp addD (dOp addD (dVar 9) (dC (.int 1))) (dCallW f__law_next 0 (aCons (dC (.int 6)) aNil))) aNil))) [9])) aNil))
      [some (.wdr (.draws ws)), none, none, none, none, none, none, none, none, none, none, none, none] n = some (.nx [some (.wdr (.draws ws)), some (.val (.tuple (ps.map twoD))), none, none, none, none, none, none, none, none, none, none, none], n2) := by
    have hb : -big ≤ nx ws n 8 ∧ nx ws n 8 ≤ big := by
      unfold big
      omega
    have hr : (rangeD 0 (nx ws n 8)).length ≤ 16000000 := by
      rw [rangeD_len]
      omega
    have hxl : xs.length ≤ 16000000 := by omega
    simp
    rw [bnd_next (by decide)]
    simp [hb, hr, lim]
    rw [bnd_of hx]
    simp [hxl]
    rw [bnd_of hp]
    rfl
  rw [e_Seq, bnd_assoc, bnd_of s1]
  dsimp only
  -- how many meet
  have hv : ∀ k, k < ps.length → 0 ≤ bg ps k ∧ bg ps k < 15 ∧ bg ps k < en ps k := fun k hk => by
    unfold bg en
    rw [List.getD_eq_getElem?_getD, List.getElem?_eq_getElem hk]
    exact pr _ (List.getElem_mem hk)
  have hm := meet_eq hv
  have s2 : sAsg (.nm 2) (dCallB max1D (aCons (dLst (dOpF catD (dLst (dDisp (aCons (dC (.int 0)) aNil))) (dLst (dLc (itemsR1 (dC (.int 25))) (.nm 11) tTrue (dCallB lenD (aCons (dLst (dLc (itemsT (dVar 1)) (.nm 12) (tOf (dChain leD ltD (dOp ixD (dVar 12) (dC (.int 0))) (dVar 11) (dOp ixD (dVar 12) (dC (.int 1))))) (dVar 12) [12])) aNil)) [11])))) aNil))
      [some (.wdr (.draws ws)), some (.val (.tuple (ps.map twoD))), none, none, none, none, none, none, none, none, none, none, none] = ret (.nx [some (.wdr (.draws ws)), some (.val (.tuple (ps.map twoD))), some (.val (.int ((uniqI (finR ps).1).length : Int))), none, none, none, none, none, none, none, none, none, none]) := by
    have h := meet_lc ps (by omega) (some (.wdr (.draws ws)))
    have hb : -big ≤ (25 : Int) ∧ (25 : Int) ≤ big := by decide
    have hr : (rangeD 0 25).length ≤ lim := by decide
    have hc : catD (.list [.int 0]) (.list (((List.range 25).map fun t : Nat => ((cnt ps (t : Int) : Nat) : Int)).map PyData.int)) = some ((0 :: (List.range 25).map fun t : Nat => ((cnt ps (t : Int) : Nat) : Int)).map PyData.int) := by
      unfold catD
      simp only
      rw [if_pos (by simp; decide)]
      rfl
    have hx : max1D [.list (.int 0 :: ((List.range 25).map fun t : Nat => ((cnt ps (t : Int) : Nat) : Int)).map PyData.int)] = some (.int ((uniqI (finR ps).1).length : Int)) := by
      rw [v_max1L, show (PyData.int 0 :: ((List.range 25).map fun t : Nat => ((cnt ps (t : Int) : Nat) : Int)).map PyData.int) = (0 :: (List.range 25).map fun t : Nat => ((cnt ps (t : Int) : Nat) : Int)).map PyData.int from rfl, intsOf_mp]
      simp only
      rw [hm]
    generalize (List.range 25).map (fun t : Nat => ((cnt ps (t : Int) : Nat) : Int)) = L at *
    have hr2 : (rangeD 0 25).length ≤ 16000000 := hr
    simp only [e_Asg, e_CallB, e_aCons, e_aNil, e_Lst, e_OpF, e_Disp, e_C, bnd_ret, e_Lc, e_itemsR1, bnd_assoc]
    simp only [hb, and_self, if_true, lift_some_eq, bnd_ret, List.length_singleton]
    simp [lim, hr2, h, hc, hx, -v_max1L]
    done
  rw [e_Seq, bnd_assoc, s2, bnd_ret]
  dsimp only
  -- as many rooms
  have s3 : sIf (tOf (dOp neD (dCallB lenSetTD (aCons (dCallT f_rooms_for 0 (dVar 1)) aNil)) (dVar 2))) (sRet (dC (.bool false))) sPass
      [some (.wdr (.draws ws)), some (.val (.tuple (ps.map twoD))), some (.val (.int ((uniqI (finR ps).1).length : Int))), none, none, none, none, none, none, none, none, none, none] = ret (.nx [some (.wdr (.draws ws)), some (.val (.tuple (ps.map twoD))), some (.val (.int ((uniqI (finR ps).1).length : Int))), none, none, none, none, none, none, none, none, none, none]) := by
    obtain ⟨done, _, hi⟩ := fin_inv hv
    have hfl : (finR ps).1.length ≤ 4000 := by
      rw [hi.len]
      omega
    have hR := rooms_eq (ps := ps) (by omega)
    have hls : lenSetTD [.tuple ((finR ps).1.map PyData.int)] = some (.int ((uniqI (finR ps).1).length : Int)) := by
      unfold lenSetTD
      rw [v_arg1]
      simp [hfl]
    have hct : dCallT f_rooms_for 0 (dVar 1) [some (.wdr (.draws ws)), some (.val (.tuple (ps.map twoD))), some (.val (.int ((uniqI (finR ps).1).length : Int))), none, none, none, none, none, none, none, none, none, none] = ret (.tuple ((finR ps).1.map PyData.int)) := by
      unfold dCallT
      simp [hR]
    generalize ((uniqI (finR ps).1).length : Int) = z at *
    simp [hct, hls]
  rw [e_Seq, bnd_assoc, s3, bnd_ret]
  dsimp only
  generalize PyData.tuple (ps.map twoD) = P1 at *
  generalize PyData.int ((uniqI (finR ps).1).length : Int) = P2 at *
  -- the tasks
  obtain ⟨j0, j1, _⟩ := nx_rng hd n2 (m := 3) (by decide)
  obtain ⟨qs, n3, hq, ql, qr⟩ := dr_t hd (some (.val P1)) (some (.val P2)) (rangeD 0 (1 + nx ws n2 3)) (n2 + 1)
  rw [rangeD_len] at ql
  have ql3 : qs.length ≤ 3 := by omega
  have s4 : sAsg (.nm 3) (dCallB tupOfD (aCons (dLst (dLc (itemsR1 (dOp addD (dC (.int 1)) (dCallW f__law_next 0 (aCons (dC (.int 3)) aNil)))) (.nm 10) tTrue (dTup (aCons (dOp addD (dC (.int 2)) (dCallW f__law_next 0 (aCons (dC (.int 8)) aNil))) (aCons (dOp addD (dC (.int 1)) (dCallW f__law_next 0 (aCons (dC (.int 3)) aNil))) aNil))) [10])) aNil))
      [some (.wdr (.draws ws)), some (.val P1), some (.val P2), none, none, none, none, none, none, none, none, none, none] n2 = some (.nx [some (.wdr (.draws ws)), some (.val P1), some (.val P2), some (.val (.tuple (qs.map twoD))), none, none, none, none, none, none, none, none, none], n3) := by
    have hb : -big ≤ 1 + nx ws n2 3 ∧ 1 + nx ws n2 3 ≤ big := by
      unfold big
      omega
    have hr : (rangeD 0 (1 + nx ws n2 3)).length ≤ 16000000 := by
      rw [rangeD_len]
      omega
    simp
    rw [bnd_next (by decide)]
    simp [hb, hr, lim]
    rw [bnd_of hq]
    rfl
  rw [e_Seq, bnd_assoc, bnd_of s4]
  dsimp only
  -- their shares
  have hp2 : (1 : Int) * 100 ^ qs.length ≤ 100000000 := by
    rcases (show qs.length = 0 ∨ qs.length = 1 ∨ qs.length = 2 ∨ qs.length = 3 by omega) with e | e | e | e <;> rw [e] <;> decide
  obtain ⟨w0, w1, _, w3⟩ := wf_facts qs 1 1 (by decide) (by decide) hp2 qr
  obtain ⟨y6, y7, n6, n7, hL⟩ := law_loop (some (.wdr (.draws ws))) (some (.val P1)) (some (.val P2)) (some (.val (.tuple (qs.map twoD)))) (some (.val (.int 0))) none none none none none qs 1 1 none none (.inl rfl) (.inl rfl) (by decide) (by decide) hp2 qr
  have hR := rounds_eq ql3 qr
  have hS := sum_lc (Wf 1 qs) (some (.wdr (.draws ws))) (some (.val P1)) (some (.val P2)) (some (.val (.tuple (qs.map twoD)))) (some (.val (.int 0))) none none none none none w0 w1 qs qr
  have hle := least_eq (a := upI (Wf 1 qs) qs) (b := Wf 1 qs) w0 w1
  have hu : (qs.map fun q => Wf 1 qs / q.1 * q.2).sum = upI (Wf 1 qs) qs := rfl
  generalize (qs.map fun q => Wf 1 qs / q.1 * q.2) = L at *
  generalize upI (Wf 1 qs) qs = U at *
  generalize Wf 1 qs = V at *
  have hll : (qs.map twoD).length ≤ 16000000 := by
    rw [List.length_map]
    omega
  generalize qs.map twoD = T at *
  refine ⟨n3, ?_⟩
  have fin : ∀ y6 y7 : Option En, NM y6 → NM y7 → sSeq (sAsg (.nm 5) (dCallB sumD (aCons (dLst (dLc (itemsT (dVar 3)) (.tp [(.nm 6), (.nm 7)]) tTrue (dOp mulD (dOp fdivD (dVar 4) (dVar 6)) (dVar 7)) [6, 7])) aNil)))
      (sSeq (sAsg (.nm 8) (dCallB f_rounds_fit (aCons (dVar 3) aNil)))
      (sRet (dIf (tOf (dOp leD (dVar 5) (dVar 4))) (dOp eqD (dVar 8) (dTup (aCons (dC (.str "yes")) (aCons (dVar 4) aNil)))) (dOp eqD (dVar 8) (dTup (aCons (dC (.str "no")) (aCons (dCallB f__law_least (aCons (dVar 5) (aCons (dVar 4) aNil))) aNil)))))))
      [some (.wdr (.draws ws)), some (.val P1), some (.val P2), some (.val (.tuple T)), some (.val (.int V)), some (.val (.int 0)), y6, y7, none, none, none, none, none] = ret (.rt (.bool true)) := by
    intro y6 y7 n6 n7
    by_cases c : U ≤ V
    · rcases n6 with rfl | ⟨d6, rfl⟩ <;> rcases n7 with rfl | ⟨d7, rfl⟩ <;> simp [hll, lim, hS, hu, hR, c, eqS]
    · have hrd : rd U V = .tuple [.int (U / gcdI U V), .int (V / gcdI U V)] := rfl
      rcases n6 with rfl | ⟨d6, rfl⟩ <;> rcases n7 with rfl | ⟨d7, rfl⟩ <;> simp [hll, lim, hS, hu, hR, c, hle, hrd, eqS2]
  have hf := fin y6 y7 n6 n7
  rw [e_Seq]
  simp [lim, hL, -e_Seq]
  rw [e_Seq]
  simp [hL, -e_Seq]
  rw [hf]
  rfl
end LK

namespace LK
open PySem PySem.Spec PyProof.Rows L2 DL
def topS (i : Nat) : Stmt := PySem.Challenge.pw_daysworn_k17_whole_known_rooms_and_hands.main.body.getD i (.Pass ⟨0, 0, 0, 0⟩)
abbrev s_rooms_for : Stmt := topS 1
abbrev s_common : Stmt := topS 3
abbrev s_together : Stmt := topS 4
abbrev s_fraction : Stmt := topS 6
abbrev s_added : Stmt := topS 7
abbrev s_rounds_fit : Stmt := topS 9
abbrev s__law_draws : Stmt := topS 11
abbrev s__law_next : Stmt := topS 12
abbrev s__law_measure : Stmt := topS 13
abbrev s__law_least : Stmt := topS 14
abbrev s__law_holds : Stmt := topS 15
abbrev s_law : Stmt := topS 16
theorem sc_rooms_for : FnScope n_rooms_for ["pairs"] (defScope s_rooms_for) := ⟨rfl, rfl, rfl, by decide +kernel, rfl, by decide +kernel, by decide +kernel⟩
theorem sc_common : FnScope n_common ["a", "b"] (defScope s_common) := ⟨rfl, rfl, rfl, by decide +kernel, rfl, by decide +kernel, by decide +kernel⟩
theorem sc_together : FnScope n_together ["a", "b"] (defScope s_together) := ⟨rfl, rfl, rfl, by decide +kernel, rfl, by decide +kernel, by decide +kernel⟩
theorem sc_fraction : FnScope n_fraction ["upper", "lower"] (defScope s_fraction) := ⟨rfl, rfl, rfl, by decide +kernel, rfl, by decide +kernel, by decide +kernel⟩
theorem sc_added : FnScope n_added ["one", "other"] (defScope s_added) := ⟨rfl, rfl, rfl, by decide +kernel, rfl, by decide +kernel, by decide +kernel⟩
theorem sc_rounds_fit : FnScope n_rounds_fit ["tasks"] (defScope s_rounds_fit) := ⟨rfl, rfl, rfl, by decide +kernel, rfl, by decide +kernel, by decide +kernel⟩
theorem sc__law_draws : FnScope n__law_draws ["script", "many"] (defScope s__law_draws) := ⟨rfl, rfl, rfl, by decide +kernel, rfl, by decide +kernel, by decide +kernel⟩
theorem sc__law_next : FnScope n__law_next ["w", "many"] (defScope s__law_next) := ⟨rfl, rfl, rfl, by decide +kernel, rfl, by decide +kernel, by decide +kernel⟩
theorem sc__law_measure : FnScope n__law_measure ["a", "b"] (defScope s__law_measure) := ⟨rfl, rfl, rfl, by decide +kernel, rfl, by decide +kernel, by decide +kernel⟩
theorem sc__law_least : FnScope n__law_least ["a", "b"] (defScope s__law_least) := ⟨rfl, rfl, rfl, by decide +kernel, rfl, by decide +kernel, by decide +kernel⟩
theorem sc__law_holds : FnScope n__law_holds ["w"] (defScope s__law_holds) := ⟨rfl, rfl, rfl, by decide +kernel, rfl, by decide +kernel, by decide +kernel⟩
section
variable {P : Program} {w : World} {K : PySem.W.Frag} {mg : Str → Option Value} {base : Heap}
set_option maxHeartbeats 8000000 in
theorem ok_rooms_for {f cT : Addr} {fd : FuncData} (F : Fun K "rooms_for" "rooms_for" s_rooms_for f fd) (hb : ∀ x : Str, x ∈ blt → mg x = none) (TB : LamX.TabB base mg cT (tabK K).1) (hcd : fd.code = .ref cT) : FnOk P w K mg base CX0 4 f fd ["pairs"] (SpT K f_rooms_for) :=
  fnT_ok (c := cT) (k := 3) (m := b_rooms_for) (N := n_rooms_for) (a := "pairs") (nn := 9) F sc_rooms_for hcd rfl fun A outer s H E hr =>
  (dss_cons (ds_lam (ps_set (i := 1) sc_rooms_for.nd rfl (.inl rfl) (pe_sortLam (i := 0) (a := "pairs") (b := "k") rfl (by rfl) (hb "sorted" (by decide)) (prg_1 (by rfl) (hb "range" (by decide)) (pe_callB call_len_seq (by rfl) (hb "len" (by decide)) (by decide +kernel) (pa_cons (pv 0) pa_nil))) TB rfl rfl ⟨rfl, rfl, rfl, by decide +kernel, by decide +kernel, by decide +kernel, by decide +kernel⟩ (by rfl) (by rfl) (fun _ _ _ _ _ _ _ => rfl) (hr.mono (by decide)) (by decide) (by decide) (by decide))) (tabK_q _))
  (dss_cons (ds_asgF (ps_set (i := 2) sc_rooms_for.nd rfl (.inl rfl) (fe_op op_rep r_rep (le_of (de_of_fe (fe_lst (da_cons de_int da_nil)))) (le_of (de_cb (pe_callB call_len_seq (by rfl) (hb "len" (by decide)) (by decide +kernel) (la_cons (le_of (de_var (pv 0))) la_nil)) r_len)))))
  (dss_cons (ds_asgF (ps_set (i := 3) sc_rooms_for.nd rfl (.inr rfl) (fe_lst da_nil)))
  (dss_cons (ds_for (ps_for PassesOwn.never rfl (di_list (de_var (pv 1))) (dg_name (pg_name (i := 4) sc_rooms_for.nd rfl (.inl rfl))) (dss_cons (ds_asg (p := (.tp [(.nm 5), (.nm 6)])) (ps_asg (de_ix (le_of (de_var (pv 0))) (le_of (de_var (pv 4)))) (dg_tup (ps := [(.nm 5), (.nm 6)]) rfl (dgs_cons (dg_name (pg_name (i := 5) sc_rooms_for.nd rfl (.inr rfl))) (dgs_cons (dg_name (pg_name (i := 6) sc_rooms_for.nd rfl (.inl rfl))) dgs_nil)))))
  (dss_cons (ds_asgLc (ps_setLc (own := [("room", 8)]) (i := 7) rfl sc_rooms_for.nd rfl rfl (sw_true rfl rfl rfl (by decide +kernel)) (di_range1 (pi_range1 (by rfl) (hb "range" (by decide)) (da_cons (de_cb (pe_callB call_len_seq (by rfl) (hb "len" (by decide)) (by decide +kernel) (la_cons (le_var (pv 3)) la_nil)) r_len) da_nil))) (blkOk_by (N := n_rooms_for) (sc := (defScope s_rooms_for)) (by decide +kernel)) (fun _ _ _ _ _ => (dg_name (pg_name (i := 8) sc_rooms_for.nd rfl (.inl rfl)))) (fun _ _ _ _ _ => (dts_one (dt_cmp op_le r_le (le_of (de_ix (le_var (pv 3)) (le_of (de_var (pv 8))))) (le_of (de_var (pv 5))) (nomark _)))) (fun _ _ _ _ _ => (de_var (pv 8)))))
  (dss_cons (ds_if (dt_cmp (op_eqD hr.units) r_eq (le_of (de_var (pv 7))) (le_of (de_of_fe (fe_lst da_nil))) (nomark _)) (dss_cons (ds_asg (p := .nm 7) (ps_set (i := 7) sc_rooms_for.nd rfl (.inl rfl) (de_of_fe (fe_lst (da_cons (de_cb (pe_callB call_len_seq (by rfl) (hb "len" (by decide)) (by decide +kernel) (la_cons (le_var (pv 3)) la_nil)) r_len) da_nil)))))
  (dss_one (ds_app (ps_expr (pe_bm PySem.F.plainAttrs_list PySem.F.slot_list_append PySem.F.type_list_append mt_append (pv 3) (pa_cons (de_var (pv 6)) pa_nil)))))) dss_nil)
  (dss_cons (ds_setI (ps_asg (de_ix (le_of (de_var (pv 7))) (le_of de_int)) (pg_sub (pv 2) (de_var (pv 4)) set_list)))
  (dss_one (ds_setI (ps_asg (de_var (pv 6)) (pg_sub (pv 3) (de_ix (le_of (de_var (pv 7))) (le_of de_int)) set_list))))))))))
  (dss_one (ds_ret (de_cb (pe_callTy call_tuple_of (by rfl) (hb "tuple" (by decide)) (by decide +kernel) (la_cons (le_var (pv 2)) la_nil)) r_tupOf)))))))
set_option maxHeartbeats 8000000 in
theorem ok_common {f : Addr} {fd : FuncData} (F : Fun K "common" "common" s_common f fd) (hb : ∀ x : Str, x ∈ blt → mg x = none) : FnOk P w K mg base CX0 1 f fd ["a", "b"] (SpP K 2 f_common) :=
  fn_ok (k := 0) (m := b_common) (N := n_common) (ps := ["a", "b"]) (nn := 2) (kk := 2) F sc_common rfl rfl fun cdv A outer s H E hr =>
  (dss_cons (ds_par (ps_par (i := 0) (j := 1) rfl sc_common.nd rfl rfl (by decide) rfl rfl (da_cons (de_cb (pe_callB call_abs (by rfl) (hb "abs" (by decide)) (by decide +kernel) (la_cons (le_of (de_var (pv 0))) la_nil)) r_abs) (da_cons (de_cb (pe_callB call_abs (by rfl) (hb "abs" (by decide)) (by decide +kernel) (la_cons (le_of (de_var (pv 1))) la_nil)) r_abs) da_nil)) rfl))
  (dss_cons (ds_while (fuel := 1000) (ps_while PassesOwn.never (dt_cmp op_gt r_gt (le_of (de_var (pv 1))) (le_of de_int) (nomark _)) (dss_one (ds_par (ps_par (i := 0) (j := 1) rfl sc_common.nd rfl rfl (by decide) rfl rfl (da_cons (de_var (pv 1)) (da_cons (de_op op_mod r_mod (le_of (de_var (pv 0))) (le_of (de_var (pv 1)))) da_nil)) rfl)))))
  (dss_one (ds_ret (de_var (pv 0))))))
set_option maxHeartbeats 8000000 in
theorem ok_together {f : Addr} {fd : FuncData} (F : Fun K "together" "together" s_together f fd) (hb : ∀ x : Str, x ∈ blt → mg x = none) (C_common : Cal P w K mg base 1 "common" (SpP K 2 f_common)) : FnOk P w K mg base CX0 2 f fd ["a", "b"] (SpP K 2 f_together) :=
  fn_ok (k := 1) (m := b_together) (N := n_together) (ps := ["a", "b"]) (nn := 2) (kk := 2) F sc_together rfl rfl fun cdv A outer s H E hr =>
  (dss_one (ds_ret (de_op op_mul r_mul (le_of (de_op op_fdiv r_fdiv (le_of (de_var (pv 0))) (le_of (de_call (pe_cal C_common hr (by decide) (by rfl) (da_cons (de_var (pv 0)) (da_cons (de_var (pv 1)) da_nil))) (aCons_len (aCons_len (fun _ _ _ _ h => aNil_len h))))))) (le_of (de_var (pv 1))))))
set_option maxHeartbeats 8000000 in
theorem ok_fraction {f : Addr} {fd : FuncData} (F : Fun K "fraction" "fraction" s_fraction f fd) (hb : ∀ x : Str, x ∈ blt → mg x = none) (C_common : Cal P w K mg base 1 "common" (SpP K 2 f_common)) : FnOk P w K mg base CX0 2 f fd ["upper", "lower"] (SpP K 2 f_fraction) :=
  fn_ok (k := 1) (m := b_fraction) (N := n_fraction) (ps := ["upper", "lower"]) (nn := 3) (kk := 2) F sc_fraction rfl rfl fun cdv A outer s H E hr =>
  (dss_cons (ds_asg (p := .nm 2) (ps_set (i := 2) sc_fraction.nd rfl (.inl rfl) (de_call (pe_cal C_common hr (by decide) (by rfl) (da_cons (de_var (pv 0)) (da_cons (de_var (pv 1)) da_nil))) (aCons_len (aCons_len (fun _ _ _ _ h => aNil_len h))))))
  (dss_one (ds_ret (de_tup (da_cons (de_op op_fdiv r_fdiv (le_of (de_var (pv 0))) (le_of (de_var (pv 2)))) (da_cons (de_op op_fdiv r_fdiv (le_of (de_var (pv 1))) (le_of (de_var (pv 2)))) da_nil))))))
set_option maxHeartbeats 8000000 in
theorem ok_added {f : Addr} {fd : FuncData} (F : Fun K "added" "added" s_added f fd) (hb : ∀ x : Str, x ∈ blt → mg x = none) (C_fraction : Cal P w K mg base 2 "fraction" (SpP K 2 f_fraction)) : FnOk P w K mg base CX0 3 f fd ["one", "other"] (SpP K 2 f_added) :=
  fn_ok (k := 2) (m := b_added) (N := n_added) (ps := ["one", "other"]) (nn := 2) (kk := 2) F sc_added rfl rfl fun cdv A outer s H E hr =>
  (dss_one (ds_ret (de_call (pe_cal C_fraction hr (by decide) (by rfl) (da_cons (de_op op_addA r_add (le_of (de_op op_mul r_mul (le_of (de_ix (le_of (de_var (pv 0))) (le_of de_int))) (le_of (de_ix (le_of (de_var (pv 1))) (le_of de_int))))) (le_of (de_op op_mul r_mul (le_of (de_ix (le_of (de_var (pv 1))) (le_of de_int))) (le_of (de_ix (le_of (de_var (pv 0))) (le_of de_int)))))) (da_cons (de_op op_mul r_mul (le_of (de_ix (le_of (de_var (pv 0))) (le_of de_int))) (le_of (de_ix (le_of (de_var (pv 1))) (le_of de_int)))) da_nil))) (aCons_len (aCons_len (fun _ _ _ _ h => aNil_len h))))))
set_option maxHeartbeats 8000000 in
theorem ok_rounds_fit {f : Addr} {fd : FuncData} (F : Fun K "rounds_fit" "rounds_fit" s_rounds_fit f fd) (hb : ∀ x : Str, x ∈ blt → mg x = none) (C_added : Cal P w K mg base 3 "added" (SpP K 2 f_added)) (C_fraction : Cal P w K mg base 2 "fraction" (SpP K 2 f_fraction)) (C_together : Cal P w K mg base 2 "together" (SpP K 2 f_together)) : FnOk P w K mg base CX0 4 f fd ["tasks"] (SpP K 1 f_rounds_fit) :=
  fn_ok (k := 3) (m := b_rounds_fit) (N := n_rounds_fit) (ps := ["tasks"]) (nn := 5) (kk := 1) F sc_rounds_fit rfl rfl fun cdv A outer s H E hr =>
  (dss_cons (ds_asg (p := .nm 1) (ps_set (i := 1) sc_rounds_fit.nd rfl (.inl rfl) (de_tup (da_cons de_int (da_cons de_int da_nil)))))
  (dss_cons (ds_asg (p := .nm 2) (ps_set (i := 2) sc_rounds_fit.nd rfl (.inl rfl) de_int))
  (dss_cons (ds_for (ps_for PassesOwn.never rfl (di_tup (de_var (pv 0))) (dg_tup (ps := [(.nm 3), (.nm 4)]) rfl (dgs_cons (dg_name (pg_name (i := 3) sc_rounds_fit.nd rfl (.inl rfl))) (dgs_cons (dg_name (pg_name (i := 4) sc_rounds_fit.nd rfl (.inl rfl))) dgs_nil))) (dss_cons (ds_asg (p := .nm 1) (ps_set (i := 1) sc_rounds_fit.nd rfl (.inl rfl) (de_call (pe_cal C_added hr (by decide) (by rfl) (da_cons (de_var (pv 1)) (da_cons (de_call (pe_cal C_fraction hr (by decide) (by rfl) (da_cons (de_var (pv 4)) (da_cons (de_var (pv 3)) da_nil))) (aCons_len (aCons_len (fun _ _ _ _ h => aNil_len h)))) da_nil))) (aCons_len (aCons_len (fun _ _ _ _ h => aNil_len h))))))
  (dss_one (ds_asg (p := .nm 2) (ps_set (i := 2) sc_rounds_fit.nd rfl (.inl rfl) (de_call (pe_cal C_together hr (by decide) (by rfl) (da_cons (de_var (pv 2)) (da_cons (de_var (pv 3)) da_nil))) (aCons_len (aCons_len (fun _ _ _ _ h => aNil_len h))))))))))
  (dss_one (ds_ret (de_if (dt_cmp op_le r_le (le_of (de_ix (le_of (de_var (pv 1))) (le_of de_int))) (le_of (de_ix (le_of (de_var (pv 1))) (le_of de_int))) (nomark _)) (de_tup (da_cons de_str (da_cons (de_var (pv 2)) da_nil))) (de_tup (da_cons de_str (da_cons (de_var (pv 1)) da_nil)))))))))
set_option maxHeartbeats 8000000 in
theorem ok__law_draws {f : Addr} {fd : FuncData} (F : Fun K "_law_draws" "_law_draws" s__law_draws f fd) (hb : ∀ x : Str, x ∈ blt → mg x = none) : FnOk P w K mg base CX0 1 f fd ["script", "many"] (SpD K fDraws) :=
  fnD_ok (k := 0) (m := bDraws) (N := n__law_draws) (ps := ["script", "many"]) (nn := 8)  F sc__law_draws rfl rfl fun cdv A outer s H E hr =>
  (dss_cons (ds_asgF (ps_set (i := 2) sc__law_draws.nd rfl (.inl rfl) (fe_lst da_nil)))
  (dss_cons (ds_asg (p := .nm 3) (ps_set (i := 3) sc__law_draws.nd rfl (.inl rfl) de_int))
  (dss_cons (ds_for (ps_for PassesOwn.never rfl (di_range1 (pi_range1 (by rfl) (hb "range" (by decide)) (da_cons (de_lenS (pe_callB call_len_seq (by rfl) (hb "len" (by decide)) (by decide +kernel) (pa_cons (pv 0) pa_nil))) da_nil))) (dg_name (pg_name (i := 4) sc__law_draws.nd rfl (.inl rfl))) (dss_cons (ds_asg (p := .nm 5) (ps_set (i := 5) sc__law_draws.nd rfl (.inl rfl) (de_cb (pe_callB call_abs (by rfl) (hb "abs" (by decide)) (by decide +kernel) (la_cons (le_of (de_cb (pe_callTy call_int1 (by rfl) (hb "int" (by decide)) (by decide +kernel) (la_cons (le_of (de_ixS (pe_ix ix_list (pv 0) (de_var (pv 4)) (fun _ _ => rfl)))) la_nil)) r_int)) la_nil)) r_abs)))
  (dss_cons (ds_asg (p := .nm 3) (ps_set (i := 3) sc__law_draws.nd rfl (.inl rfl) (de_op op_mod r_mod (le_of (de_cb (pe_callTy call_int1 (by rfl) (hb "int" (by decide)) (by decide +kernel) (la_cons (le_of (de_op op_addA r_add (le_of (de_op op_addA r_add (le_of (de_op op_mul r_mul (le_of (de_var (pv 3))) (le_of de_int))) (le_of (de_op op_mod r_mod (le_of (de_var (pv 5))) (le_of de_int))))) (le_of (de_var (pv 4))))) la_nil)) r_int)) (le_of de_int))))
  (dss_cons (ds_asg (p := .nm 6) (ps_set (i := 6) sc__law_draws.nd rfl (.inl rfl) de_int))
  (dss_cons (ds_if (dt_cmp op_ge r_ge (le_of (de_var (pv 5))) (le_of (de_op op_pow r_pow (le_of de_int) (le_of de_int))) (nomark _)) (dss_one (ds_asg (p := .nm 6) (ps_set (i := 6) sc__law_draws.nd rfl (.inl rfl) (de_var (pv 5))))) (dss_cons (ds_app (ps_expr (pe_bm PySem.F.plainAttrs_list PySem.F.slot_list_append PySem.F.type_list_append mt_append (pv 2) (pa_cons (de_op op_mod r_mod (le_of (de_cb (pe_callTy call_int1 (by rfl) (hb "int" (by decide)) (by decide +kernel) (la_cons (le_of (de_var (pv 5))) la_nil)) r_int)) (le_of de_int)) pa_nil))))
  (dss_one (ds_app (ps_expr (pe_bm PySem.F.plainAttrs_list PySem.F.slot_list_append PySem.F.type_list_append mt_append (pv 2) (pa_cons (de_op op_mod r_mod (le_of (de_op op_mod r_mod (le_of (de_cb (pe_callTy call_int1 (by rfl) (hb "int" (by decide)) (by decide +kernel) (la_cons (le_of (de_op op_addA r_add (le_of (de_op op_mul r_mul (le_of (de_var (pv 3))) (le_of de_int))) (le_of de_int))) la_nil)) r_int)) (le_of de_int))) (le_of de_int)) pa_nil)))))))
  (dss_one (ds_for (ps_for PassesOwn.never rfl (di_range1 (pi_range1 (by rfl) (hb "range" (by decide)) (da_cons de_int da_nil))) (dg_name (pg_name (i := 7) sc__law_draws.nd rfl (.inl rfl))) (dss_one (ds_if (dt_cmp op_gt r_gt (le_of (de_var (pv 6))) (le_of de_int) (nomark _)) (dss_cons (ds_app (ps_expr (pe_bm PySem.F.plainAttrs_list PySem.F.slot_list_append PySem.F.type_list_append mt_append (pv 2) (pa_cons (de_op op_mod r_mod (le_of (de_cb (pe_callTy call_int1 (by rfl) (hb "int" (by decide)) (by decide +kernel) (la_cons (le_of (de_var (pv 6))) la_nil)) r_int)) (le_of de_int)) pa_nil))))
  (dss_one (ds_asg (p := .nm 6) (ps_set (i := 6) sc__law_draws.nd rfl (.inl rfl) (de_op op_fdiv r_fdiv (le_of (de_var (pv 6))) (le_of de_int)))))) dss_nil)))))))))))
  (dss_cons (ds_for (ps_for PassesOwn.never rfl (di_range1 (pi_range1 (by rfl) (hb "range" (by decide)) (da_cons (de_var (pv 1)) da_nil))) (dg_name (pg_name (i := 4) sc__law_draws.nd rfl (.inl rfl))) (dss_cons (ds_asg (p := .nm 3) (ps_set (i := 3) sc__law_draws.nd rfl (.inl rfl) (de_op op_mod r_mod (le_of (de_cb (pe_callTy call_int1 (by rfl) (hb "int" (by decide)) (by decide +kernel) (la_cons (le_of (de_op op_addA r_add (le_of (de_op op_addA r_add (le_of (de_op op_mul r_mul (le_of (de_var (pv 3))) (le_of de_int))) (le_of (de_var (pv 4))))) (le_of de_int))) la_nil)) r_int)) (le_of de_int))))
  (dss_one (ds_app (ps_expr (pe_bm PySem.F.plainAttrs_list PySem.F.slot_list_append PySem.F.type_list_append mt_append (pv 2) (pa_cons (de_op op_mod r_mod (le_of (de_cb (pe_callTy call_int1 (by rfl) (hb "int" (by decide)) (by decide +kernel) (la_cons (le_of (de_var (pv 3))) la_nil)) r_int)) (le_of de_int)) pa_nil))))))))
  (dss_one (ds_ret (de_of_fe (fe_slL (le_var (pv 2)) do_none (do_some (de_var (pv 1)))))))))))
set_option maxHeartbeats 8000000 in
theorem ok__law_next {f : Addr} {fd : FuncData} (F : Fun K "_law_next" "_law_next" s__law_next f fd) (hb : ∀ x : Str, x ∈ blt → mg x = none) : FnOk P w K mg base CX0 1 f fd ["w", "many"] (SpW K 1 fNext) :=
  fnW_ok (k := 0) (m := bNext) (N := n__law_next) (ps := ["w", "many"]) (nn := 2) (k2 := 1) F sc__law_next rfl rfl fun cdv A outer s H E hr =>
  (dss_cons (ds_inc (ps_daug (hu_of hr) (pv 0) pe_str pe_int in_add (fun _ _ _ => rfl)))
  (dss_cons (ds_if (dt_cmp op_gt r_gt (le_of (de_at (pe_dget (hu_of hr) (pv 0) pe_str (fun _ _ => rfl)))) (le_of (de_cb (pe_callB call_len_seq (by rfl) (hb "len" (by decide)) (by decide +kernel) (la_cons (le_of (de_dr (pe_dget (hu_of hr) (pv 0) pe_str (fun _ _ => rfl)))) la_nil)) r_len)) (nomark _)) (dss_one (ds_ret de_int)) dss_nil)
  (dss_one (ds_ret (de_op op_mod r_mod (le_of (de_cb (pe_callTy call_int1 (by rfl) (hb "int" (by decide)) (by decide +kernel) (la_cons (le_of (de_ix (le_of (de_dr (pe_dget (hu_of hr) (pv 0) pe_str (fun _ _ => rfl)))) (le_of (de_op op_sub r_sub (le_of (de_at (pe_dget (hu_of hr) (pv 0) pe_str (fun _ _ => rfl)))) (le_of de_int))))) la_nil)) r_int)) (le_of (de_var (pv 1))))))))
set_option maxHeartbeats 8000000 in
theorem ok__law_measure {f : Addr} {fd : FuncData} (F : Fun K "_law_measure" "_law_measure" s__law_measure f fd) (hb : ∀ x : Str, x ∈ blt → mg x = none) : FnOk P w K mg base CX0 1 f fd ["a", "b"] (SpP K 2 f__law_measure) :=
  fn_ok (k := 0) (m := b__law_measure) (N := n__law_measure) (ps := ["a", "b"]) (nn := 2) (kk := 2) F sc__law_measure rfl rfl fun cdv A outer s H E hr =>
  (dss_cons (ds_while (fuel := 1000) (ps_while PassesOwn.never (dt_cmp op_gt r_gt (le_of (de_var (pv 1))) (le_of de_int) (nomark _)) (dss_one (ds_par (ps_par (i := 0) (j := 1) rfl sc__law_measure.nd rfl rfl (by decide) rfl rfl (da_cons (de_var (pv 1)) (da_cons (de_op op_mod r_mod (le_of (de_var (pv 0))) (le_of (de_var (pv 1)))) da_nil)) rfl)))))
  (dss_one (ds_ret (de_var (pv 0)))))
set_option maxHeartbeats 8000000 in
theorem ok__law_least {f : Addr} {fd : FuncData} (F : Fun K "_law_least" "_law_least" s__law_least f fd) (hb : ∀ x : Str, x ∈ blt → mg x = none) : FnOk P w K mg base CX0 1 f fd ["a", "b"] (SpP K 2 f__law_least) :=
  fn_ok (k := 0) (m := b__law_least) (N := n__law_least) (ps := ["a", "b"]) (nn := 4) (kk := 2) F sc__law_least rfl rfl fun cdv A outer s H E hr =>
  (dss_cons (ds_par (ps_par (i := 2) (j := 3) rfl sc__law_least.nd rfl rfl (by decide) rfl rfl (da_cons (de_cb (pe_callB call_abs (by rfl) (hb "abs" (by decide)) (by decide +kernel) (la_cons (le_of (de_var (pv 0))) la_nil)) r_abs) (da_cons (de_cb (pe_callB call_abs (by rfl) (hb "abs" (by decide)) (by decide +kernel) (la_cons (le_of (de_var (pv 1))) la_nil)) r_abs) da_nil)) rfl))
  (dss_cons (ds_while (fuel := 1000) (ps_while PassesOwn.never (dt_cmp op_gt r_gt (le_of (de_var (pv 3))) (le_of de_int) (nomark _)) (dss_one (ds_par (ps_par (i := 2) (j := 3) rfl sc__law_least.nd rfl rfl (by decide) rfl rfl (da_cons (de_var (pv 3)) (da_cons (de_op op_mod r_mod (le_of (de_var (pv 2))) (le_of (de_var (pv 3)))) da_nil)) rfl)))))
  (dss_cons (ds_asg (p := .nm 2) (ps_set (i := 2) sc__law_least.nd rfl (.inl rfl) (de_if (dt_cmp op_gt r_gt (le_of (de_var (pv 1))) (le_of de_int) (nomark _)) (de_var (pv 2)) (de_op op_sub r_sub (le_of de_int) (le_of (de_var (pv 2)))))))
  (dss_one (ds_ret (de_tup (da_cons (de_op op_fdiv r_fdiv (le_of (de_var (pv 0))) (le_of (de_var (pv 2)))) (da_cons (de_op op_fdiv r_fdiv (le_of (de_var (pv 1))) (le_of (de_var (pv 2)))) da_nil))))))))
set_option maxHeartbeats 8000000 in
theorem ok__law_holds {f : Addr} {fd : FuncData} (F : Fun K "_law_holds" "_law_holds" s__law_holds f fd) (hb : ∀ x : Str, x ∈ blt → mg x = none) (C__law_least : Cal P w K mg base 1 "_law_least" (SpP K 2 f__law_least)) (C__law_measure : Cal P w K mg base 1 "_law_measure" (SpP K 2 f__law_measure)) (C__law_next : Cal P w K mg base 1 "_law_next" (SpW K 1 fNext)) (C_rooms_for : Cal P w K mg base 4 "rooms_for" (SpT K f_rooms_for)) (C_rounds_fit : Cal P w K mg base 4 "rounds_fit" (SpP K 1 f_rounds_fit)) : FnOk P w K mg base CX0 5 f fd ["w"] (SpW K 0 f__law_holds) :=
  fnW_ok (k := 4) (m := b__law_holds) (N := n__law_holds) (ps := ["w"]) (nn := 13) (k2 := 0) F sc__law_holds rfl rfl fun cdv A outer s H E hr =>
  (dss_cons (ds_asg (p := .nm 1) (ps_set (i := 1) sc__law_holds.nd rfl (.inr rfl) (de_cb (pe_callTy call_tuple_of (by rfl) (hb "tuple" (by decide)) (by decide +kernel) (la_cons (le_of (de_of_fe (fe_lc (pe_lc (own := [("x", 9)]) rfl sc__law_holds.nd (di_list (de_of_fe (fe_lc (pe_lc (own := [("k", 10)]) rfl sc__law_holds.nd (di_range1 (pi_range1 (by rfl) (hb "range" (by decide)) (da_cons (de_callW (pe_cal C__law_next hr (by decide) (by rfl) (pa_cons (pv 0) (da_cons de_int da_nil))) (aCons_len (fun _ _ _ _ h => aNil_len h))) da_nil))) (blkOk_by (N := n__law_holds) (sc := (defScope s__law_holds)) (by decide +kernel)) (fun _ _ _ _ _ => (dg_name (pg_name (i := 10) sc__law_holds.nd rfl (.inl rfl)))) (fun _ _ _ _ _ => dts_nil) (fun _ _ _ _ _ => (de_callW (pe_cal C__law_next hr (by decide) (by rfl) (pa_cons (pv 0) (da_cons de_int da_nil))) (aCons_len (fun _ _ _ _ h => aNil_len h)))))))) (blkOk_by (N := n__law_holds) (sc := (defScope s__law_holds)) (by decide +kernel)) (fun _ _ _ _ _ => (dg_name (pg_name (i := 9) sc__law_holds.nd rfl (.inl rfl)))) (fun _ _ _ _ _ => dts_nil) (fun _ _ _ _ _ => (de_tup (da_cons (de_var (pv 9)) (da_cons (de_op op_addA r_add (le_of (de_op op_addA r_add (le_of (de_var (pv 9))) (le_of de_int))) (le_of (de_callW (pe_cal C__law_next hr (by decide) (by rfl) (pa_cons (pv 0) (da_cons de_int da_nil))) (aCons_len (fun _ _ _ _ h => aNil_len h))))) da_nil)))))))) la_nil)) r_tupOf)))
  (dss_cons (ds_asg (p := .nm 2) (ps_set (i := 2) sc__law_holds.nd rfl (.inl rfl) (de_cb (pe_callB (cr_max rfl) (by rfl) (hb "max" (by decide)) (by decide +kernel) (la_cons (le_of (de_of_fe (fe_op op_cat r_cat (le_of (de_of_fe (fe_lst (da_cons de_int da_nil)))) (le_of (de_of_fe (fe_lc (pe_lc (own := [("t", 11)]) rfl sc__law_holds.nd (di_range1 (pi_range1 (by rfl) (hb "range" (by decide)) (da_cons de_int da_nil))) (blkOk_by (N := n__law_holds) (sc := (defScope s__law_holds)) (by decide +kernel)) (fun _ _ _ _ _ => (dg_name (pg_name (i := 11) sc__law_holds.nd rfl (.inr rfl)))) (fun _ _ _ _ _ => dts_nil) (fun _ _ _ _ _ => (de_cb (pe_callB call_len_seq (by rfl) (hb "len" (by decide)) (by decide +kernel) (la_cons (le_of (de_of_fe (fe_lc (pe_lc (own := [("own", 12)]) rfl sc__law_holds.nd (di_tup (de_var (pv 1))) (blkOk_by (N := n__law_holds) (by kernel_rfl)) (fun _ _ _ _ _ => (dg_name (pg_name (i := 12) sc__law_holds.nd rfl (.inl rfl)))) (fun _ _ _ _ _ => (dts_one (dt_chain r_le r_lt (pt_chain op_le op_lt (le_of (de_ix (le_of (de_var (pv 12))) (le_of de_int))) (le_of (de_var (pv 11))) (le_of (de_ix (le_of (de_var (pv 12))) (le_of de_int))))))) (fun _ _ _ _ _ => (de_var (pv 12))))))) la_nil)) r_len))))))))) la_nil)) r_max1)))
  (dss_cons (ds_if (dt_cmp (op_neD hr.units) r_ne (le_of (de_lenSetT (pe_callB cr_lenSetO (by rfl) (hb "len" (by decide)) (by decide +kernel) (pa_cons (pe_callTy (cr_setTI rfl) (by rfl) (hb "set" (by decide)) (by decide +kernel) (pa_cons (le_of (de_callT (pe_cal C_rooms_for hr (by decide) (by rfl) (pa_cons (de_var (pv 1)) pa_nil)))) pa_nil)) pa_nil)))) (le_of (de_var (pv 2))) (nomark _)) (dss_one (ds_ret de_bl)) dss_nil)
  (dss_cons (ds_asg (p := .nm 3) (ps_set (i := 3) sc__law_holds.nd rfl (.inl rfl) (de_cb (pe_callTy call_tuple_of (by rfl) (hb "tuple" (by decide)) (by decide +kernel) (la_cons (le_of (de_of_fe (fe_lc (pe_lc (own := [("k", 10)]) rfl sc__law_holds.nd (di_range1 (pi_range1 (by rfl) (hb "range" (by decide)) (da_cons (de_op op_addA r_add (le_of de_int) (le_of (de_callW (pe_cal C__law_next hr (by decide) (by rfl) (pa_cons (pv 0) (da_cons de_int da_nil))) (aCons_len (fun _ _ _ _ h => aNil_len h))))) da_nil))) (blkOk_by (N := n__law_holds) (sc := (defScope s__law_holds)) (by decide +kernel)) (fun _ _ _ _ _ => (dg_name (pg_name (i := 10) sc__law_holds.nd rfl (.inl rfl)))) (fun _ _ _ _ _ => dts_nil) (fun _ _ _ _ _ => (de_tup (da_cons (de_op op_addA r_add (le_of de_int) (le_of (de_callW (pe_cal C__law_next hr (by decide) (by rfl) (pa_cons (pv 0) (da_cons de_int da_nil))) (aCons_len (fun _ _ _ _ h => aNil_len h))))) (da_cons (de_op op_addA r_add (le_of de_int) (le_of (de_callW (pe_cal C__law_next hr (by decide) (by rfl) (pa_cons (pv 0) (da_cons de_int da_nil))) (aCons_len (fun _ _ _ _ h => aNil_len h))))) da_nil)))))))) la_nil)) r_tupOf)))
  (dss_cons (ds_asg (p := (.tp [(.nm 4), (.nm 5)])) (ps_asg (de_tup (da_cons de_int (da_cons de_int da_nil))) (dg_tup (ps := [(.nm 4), (.nm 5)]) rfl (dgs_cons (dg_name (pg_name (i := 4) sc__law_holds.nd rfl (.inr rfl))) (dgs_cons (dg_name (pg_name (i := 5) sc__law_holds.nd rfl (.inl rfl))) dgs_nil)))))
  (dss_cons (ds_for (ps_for PassesOwn.never rfl (di_tup (de_var (pv 3))) (dg_tup (ps := [(.nm 6), (.nm 7)]) rfl (dgs_cons (dg_name (pg_name (i := 6) sc__law_holds.nd rfl (.inl rfl))) (dgs_cons (dg_name (pg_name (i := 7) sc__law_holds.nd rfl (.inl rfl))) dgs_nil))) (dss_one (ds_asg (p := .nm 4) (ps_set (i := 4) sc__law_holds.nd rfl (.inr rfl) (de_op op_fdiv r_fdiv (le_of (de_op op_mul r_mul (le_of (de_var (pv 4))) (le_of (de_var (pv 6))))) (le_of (de_call (pe_cal C__law_measure hr (by decide) (by rfl) (da_cons (de_var (pv 4)) (da_cons (de_var (pv 6)) da_nil))) (aCons_len (aCons_len (fun _ _ _ _ h => aNil_len h)))))))))))
  (dss_cons (ds_asg (p := .nm 5) (ps_set (i := 5) sc__law_holds.nd rfl (.inl rfl) (de_cb (pe_callB (cr_sumA rfl) (by rfl) (hb "sum" (by decide)) (by decide +kernel) (la_cons (le_of (de_of_fe (fe_lc (pe_lc (own := [("every", 6), ("long", 7)]) rfl sc__law_holds.nd (di_tup (de_var (pv 3))) (blkOk_by (N := n__law_holds) (sc := (defScope s__law_holds)) (by decide +kernel)) (fun _ _ _ _ _ => (dg_tup (ps := [(.nm 6), (.nm 7)]) rfl (dgs_cons (dg_name (pg_name (i := 6) sc__law_holds.nd rfl (.inl rfl))) (dgs_cons (dg_name (pg_name (i := 7) sc__law_holds.nd rfl (.inl rfl))) dgs_nil)))) (fun _ _ _ _ _ => dts_nil) (fun _ _ _ _ _ => (de_op op_mul r_mul (le_of (de_op op_fdiv r_fdiv (le_of (de_var (pv 4))) (le_of (de_var (pv 6))))) (le_of (de_var (pv 7))))))))) la_nil)) r_sum)))
  (dss_cons (ds_asg (p := .nm 8) (ps_set (i := 8) sc__law_holds.nd rfl (.inl rfl) (de_call (pe_cal C_rounds_fit hr (by decide) (by rfl) (da_cons (de_var (pv 3)) da_nil)) (aCons_len (fun _ _ _ _ h => aNil_len h)))))
  (dss_one (ds_ret (de_if (dt_cmp op_le r_le (le_of (de_var (pv 5))) (le_of (de_var (pv 4))) (nomark _)) (de_cmp (op_eqD hr.units) r_eq (le_of (de_var (pv 8))) (le_of (de_tup (da_cons de_str (da_cons (de_var (pv 4)) da_nil)))) (nomark _)) (de_cmp (op_eqD hr.units) r_eq (le_of (de_var (pv 8))) (le_of (de_tup (da_cons de_str (da_cons (de_call (pe_cal C__law_least hr (by decide) (by rfl) (da_cons (de_var (pv 5)) (da_cons (de_var (pv 4)) da_nil))) (aCons_len (aCons_len (fun _ _ _ _ h => aNil_len h)))) da_nil)))) (nomark _)))))))))))))
theorem sc_law : FnScope ["script", "w", "turn"] ["script"] (defScope s_law) := ⟨rfl, rfl, rfl, by decide +kernel, rfl, by decide +kernel, by decide +kernel⟩
set_option maxHeartbeats 8000000 in
theorem ok_law {f : Addr} {fd : FuncData} (F : Fun K "law" "law" s_law f fd) (hb : ∀ x : Str, x ∈ blt → mg x = none) (hh : HoldOk f__law_holds) (C__law_draws : Cal P w K mg base 1 "_law_draws" (SpD K fDraws)) (C__law_holds : Cal P w K mg base 5 "_law_holds" (SpW K 0 f__law_holds)) : FnOk P w K mg base CX0 6 f fd ["script"] (SpLaw K (some (tabK K))) := by
  refine F.ok sc_law (fun vs H Q E h => ?_) (fun cdv A outer s H vs Q E hr h => ⟨_, pss_cons (ps_set (i := 1) sc_law.nd rfl (.inl rfl) (pe_disp (pps_cons pe_str (de_callD (pe_cal C__law_draws hr (by decide) (by rfl) (pa_cons (pv 0) (pa_cons pe_int pa_nil)))) (pps_cons pe_str pe_int pps_nil)) rfl rfl (by decide) (by decide)))
    (dss_cons (ds_for (ps_for PassesOwn.never rfl (di_range1 (pi_range1 (by rfl) (hb "range" (by decide)) (da_cons de_int da_nil))) (dg_name (pg_name (i := 2) sc_law.nd rfl (.inl rfl)))
      (dss_one (ds_if (dt_not (dt_val (de_callW (pe_cal C__law_holds hr (by decide) (by rfl) (pa_cons (pv 1) da_nil)) (fun _ _ _ _ h => aNil_len h)))) (dss_one (ds_ret de_bl)) dss_nil)))) (dss_one (ds_ret de_bl))), law_rd (htk := rfl) (turns := 4) (by decide) hh h⟩)
  obtain ⟨a, ns, rfl, _⟩ := h
  rfl
end
set_option maxHeartbeats 8000000 in
theorem all_mk {l : PySem.W.OpenLaw} {w : World} {K : PySem.W.Frag} {h : Heap} {mg : Str → Option Value} {fa : Addr} (X : K.In h) (G : h.Ns mainGlobals mg) (hfa : mg "law" = some (.ref fa)) (hh : HoldOk f__law_holds)
    {f0 : Addr} {od0 an0 : Option Addr} {sl0 : Array (Option Value)} {oc0 kV0 dc0 pm0 cd0 ct0 : Value}
    {f1 : Addr} {od1 an1 : Option Addr} {sl1 : Array (Option Value)} {oc1 kV1 dc1 pm1 cd1 ct1 : Value}
    {f2 : Addr} {od2 an2 : Option Addr} {sl2 : Array (Option Value)} {oc2 kV2 dc2 pm2 cd2 ct2 : Value}
    {f3 : Addr} {od3 an3 : Option Addr} {sl3 : Array (Option Value)} {oc3 kV3 dc3 pm3 cd3 ct3 : Value}
    {f4 : Addr} {od4 an4 : Option Addr} {sl4 : Array (Option Value)} {oc4 kV4 dc4 pm4 cd4 ct4 : Value}
    {f5 : Addr} {od5 an5 : Option Addr} {sl5 : Array (Option Value)} {oc5 kV5 dc5 pm5 cd5 ct5 : Value}
    {f6 : Addr} {od6 an6 : Option Addr} {sl6 : Array (Option Value)} {oc6 kV6 dc6 pm6 cd6 ct6 : Value}
    {f7 : Addr} {od7 an7 : Option Addr} {sl7 : Array (Option Value)} {oc7 kV7 dc7 pm7 cd7 ct7 : Value}
    {f8 : Addr} {od8 an8 : Option Addr} {sl8 : Array (Option Value)} {oc8 kV8 dc8 pm8 cd8 ct8 : Value}
    {f9 : Addr} {od9 an9 : Option Addr} {sl9 : Array (Option Value)} {oc9 kV9 dc9 pm9 cd9 ct9 : Value}
    {f10 : Addr} {od10 an10 : Option Addr} {sl10 : Array (Option Value)} {oc10 kV10 dc10 pm10 cd10 ct10 : Value}
    {f11 : Addr} {od11 an11 : Option Addr} {sl11 : Array (Option Value)} {oc11 kV11 dc11 pm11 cd11 ct11 : Value}
    {cT pT : Addr} {ts : List Addr}
    (a0 : PySem.W.nsIn K mainGlobals "rooms_for" = some (some (.ref f0)))
    (l0 : K.lookup f0 = some ⟨oc0, od0, .func (PySem.W.fnOf "rooms_for" "rooms_for" (defArgs s_rooms_for) (defBody s_rooms_for) (defScope s_rooms_for) .none kV0 dc0 pm0 an0 cd0 ct0), sl0⟩)
    (c0 : PySem.W.codeIn K cd0 "rooms_for" = true)
    (k0 : PySem.W.keepIn K (.ref f0) = true)
    (a1 : PySem.W.nsIn K mainGlobals "common" = some (some (.ref f1)))
    (l1 : K.lookup f1 = some ⟨oc1, od1, .func (PySem.W.fnOf "common" "common" (defArgs s_common) (defBody s_common) (defScope s_common) .none kV1 dc1 pm1 an1 cd1 ct1), sl1⟩)
    (c1 : PySem.W.codeIn K cd1 "common" = true)
    (k1 : PySem.W.keepIn K (.ref f1) = true)
    (a2 : PySem.W.nsIn K mainGlobals "together" = some (some (.ref f2)))
    (l2 : K.lookup f2 = some ⟨oc2, od2, .func (PySem.W.fnOf "together" "together" (defArgs s_together) (defBody s_together) (defScope s_together) .none kV2 dc2 pm2 an2 cd2 ct2), sl2⟩)
    (c2 : PySem.W.codeIn K cd2 "together" = true)
    (k2 : PySem.W.keepIn K (.ref f2) = true)
    (a3 : PySem.W.nsIn K mainGlobals "fraction" = some (some (.ref f3)))
    (l3 : K.lookup f3 = some ⟨oc3, od3, .func (PySem.W.fnOf "fraction" "fraction" (defArgs s_fraction) (defBody s_fraction) (defScope s_fraction) .none kV3 dc3 pm3 an3 cd3 ct3), sl3⟩)
    (c3 : PySem.W.codeIn K cd3 "fraction" = true)
    (k3 : PySem.W.keepIn K (.ref f3) = true)
    (a4 : PySem.W.nsIn K mainGlobals "added" = some (some (.ref f4)))
    (l4 : K.lookup f4 = some ⟨oc4, od4, .func (PySem.W.fnOf "added" "added" (defArgs s_added) (defBody s_added) (defScope s_added) .none kV4 dc4 pm4 an4 cd4 ct4), sl4⟩)
    (c4 : PySem.W.codeIn K cd4 "added" = true)
    (k4 : PySem.W.keepIn K (.ref f4) = true)
    (a5 : PySem.W.nsIn K mainGlobals "rounds_fit" = some (some (.ref f5)))
    (l5 : K.lookup f5 = some ⟨oc5, od5, .func (PySem.W.fnOf "rounds_fit" "rounds_fit" (defArgs s_rounds_fit) (defBody s_rounds_fit) (defScope s_rounds_fit) .none kV5 dc5 pm5 an5 cd5 ct5), sl5⟩)
    (c5 : PySem.W.codeIn K cd5 "rounds_fit" = true)
    (k5 : PySem.W.keepIn K (.ref f5) = true)
    (a6 : PySem.W.nsIn K mainGlobals "_law_draws" = some (some (.ref f6)))
    (l6 : K.lookup f6 = some ⟨oc6, od6, .func (PySem.W.fnOf "_law_draws" "_law_draws" (defArgs s__law_draws) (defBody s__law_draws) (defScope s__law_draws) .none kV6 dc6 pm6 an6 cd6 ct6), sl6⟩)
    (c6 : PySem.W.codeIn K cd6 "_law_draws" = true)
    (k6 : PySem.W.keepIn K (.ref f6) = true)
    (a7 : PySem.W.nsIn K mainGlobals "_law_next" = some (some (.ref f7)))
    (l7 : K.lookup f7 = some ⟨oc7, od7, .func (PySem.W.fnOf "_law_next" "_law_next" (defArgs s__law_next) (defBody s__law_next) (defScope s__law_next) .none kV7 dc7 pm7 an7 cd7 ct7), sl7⟩)
    (c7 : PySem.W.codeIn K cd7 "_law_next" = true)
    (k7 : PySem.W.keepIn K (.ref f7) = true)
    (a8 : PySem.W.nsIn K mainGlobals "_law_measure" = some (some (.ref f8)))
    (l8 : K.lookup f8 = some ⟨oc8, od8, .func (PySem.W.fnOf "_law_measure" "_law_measure" (defArgs s__law_measure) (defBody s__law_measure) (defScope s__law_measure) .none kV8 dc8 pm8 an8 cd8 ct8), sl8⟩)
    (c8 : PySem.W.codeIn K cd8 "_law_measure" = true)
    (k8 : PySem.W.keepIn K (.ref f8) = true)
    (a9 : PySem.W.nsIn K mainGlobals "_law_least" = some (some (.ref f9)))
    (l9 : K.lookup f9 = some ⟨oc9, od9, .func (PySem.W.fnOf "_law_least" "_law_least" (defArgs s__law_least) (defBody s__law_least) (defScope s__law_least) .none kV9 dc9 pm9 an9 cd9 ct9), sl9⟩)
    (c9 : PySem.W.codeIn K cd9 "_law_least" = true)
    (k9 : PySem.W.keepIn K (.ref f9) = true)
    (a10 : PySem.W.nsIn K mainGlobals "_law_holds" = some (some (.ref f10)))
    (l10 : K.lookup f10 = some ⟨oc10, od10, .func (PySem.W.fnOf "_law_holds" "_law_holds" (defArgs s__law_holds) (defBody s__law_holds) (defScope s__law_holds) .none kV10 dc10 pm10 an10 cd10 ct10), sl10⟩)
    (c10 : PySem.W.codeIn K cd10 "_law_holds" = true)
    (k10 : PySem.W.keepIn K (.ref f10) = true)
    (a11 : PySem.W.nsIn K mainGlobals "law" = some (some (.ref f11)))
    (l11 : K.lookup f11 = some ⟨oc11, od11, .func (PySem.W.fnOf "law" "law" (defArgs s_law) (defBody s_law) (defScope s_law) .none kV11 dc11 pm11 an11 cd11 ct11), sl11⟩)
    (c11 : PySem.W.codeIn K cd11 "law" = true)
    (k11 : PySem.W.keepIn K (.ref f11) = true)
    (mT : pT ∈ ts)
    (eT : cd0 = .ref cT)
    (tT : PySem.W.tabIn K "rooms_for" = some (cT, pT))
    (dT : PySem.W.codeHdIn K cT pT = true)
    (nT : K.lookup pT = none)
    (z0 : PySem.W.nsIn K mainGlobals "abs" = some none)
    (z1 : PySem.W.nsIn K mainGlobals "int" = some none)
    (z2 : PySem.W.nsIn K mainGlobals "len" = some none)
    (z3 : PySem.W.nsIn K mainGlobals "max" = some none)
    (z4 : PySem.W.nsIn K mainGlobals "range" = some none)
    (z5 : PySem.W.nsIn K mainGlobals "set" = some none)
    (z6 : PySem.W.nsIn K mainGlobals "sorted" = some none)
    (z7 : PySem.W.nsIn K mainGlobals "sum" = some none)
    (z8 : PySem.W.nsIn K mainGlobals "tuple" = some none) :
    ∃ (fd : FuncData) (c P : Addr), PySem.W.tabIn K "rooms_for" = some (c, P) ∧ PySem.W.codeHdIn K c P = true ∧ P ∈ ts ∧ K.lookup P = none ∧ (∀ (s : Shared) (v : Value), BindsTo s fd ⟨[v], []⟩ [("script", v)]) ∧ ∀ base : Heap, K.In base → base.Ns mainGlobals mg → LamX.TabB base mg c P → FnOk l.prog w K mg base CX0 6 fa fd ["script"] (SpLaw K (some (tabK K))) := by
  have e := hfa.symm.trans (PySem.W.mg_of X G a11)
  cases e
  have hb : ∀ x : Str, x ∈ blt → mg x = none := List.forall_mem_cons.mpr ⟨PySem.W.mg_none_of X G z0, List.forall_mem_cons.mpr ⟨PySem.W.mg_none_of X G z1, List.forall_mem_cons.mpr ⟨PySem.W.mg_none_of X G z2, List.forall_mem_cons.mpr ⟨PySem.W.mg_none_of X G z3, List.forall_mem_cons.mpr ⟨PySem.W.mg_none_of X G z4, List.forall_mem_cons.mpr ⟨PySem.W.mg_none_of X G z5, List.forall_mem_cons.mpr ⟨PySem.W.mg_none_of X G z6, List.forall_mem_cons.mpr ⟨PySem.W.mg_none_of X G z7, List.forall_mem_cons.mpr ⟨PySem.W.mg_none_of X G z8, fun _ h => (nomatch h)⟩⟩⟩⟩⟩⟩⟩⟩⟩
  have F0 := fun_mk (st := s_rooms_for) l0 c0 k0
  have b0 := F0.binds (ps := ["pairs"]) fun _ _ _ _ _ _ us hl => match us, hl with | [_], _ => rfl
  have F1 := fun_mk (st := s_common) l1 c1 k1
  have b1 := F1.binds (ps := ["a", "b"]) fun _ _ _ _ _ _ us hl => match us, hl with | [_, _], _ => rfl
  have F2 := fun_mk (st := s_together) l2 c2 k2
  have b2 := F2.binds (ps := ["a", "b"]) fun _ _ _ _ _ _ us hl => match us, hl with | [_, _], _ => rfl
  have F3 := fun_mk (st := s_fraction) l3 c3 k3
  have b3 := F3.binds (ps := ["upper", "lower"]) fun _ _ _ _ _ _ us hl => match us, hl with | [_, _], _ => rfl
  have F4 := fun_mk (st := s_added) l4 c4 k4
  have b4 := F4.binds (ps := ["one", "other"]) fun _ _ _ _ _ _ us hl => match us, hl with | [_, _], _ => rfl
  have F5 := fun_mk (st := s_rounds_fit) l5 c5 k5
  have b5 := F5.binds (ps := ["tasks"]) fun _ _ _ _ _ _ us hl => match us, hl with | [_], _ => rfl
  have F6 := fun_mk (st := s__law_draws) l6 c6 k6
  have b6 := F6.binds (ps := ["script", "many"]) fun _ _ _ _ _ _ us hl => match us, hl with | [_, _], _ => rfl
  have F7 := fun_mk (st := s__law_next) l7 c7 k7
  have b7 := F7.binds (ps := ["w", "many"]) fun _ _ _ _ _ _ us hl => match us, hl with | [_, _], _ => rfl
  have F8 := fun_mk (st := s__law_measure) l8 c8 k8
  have b8 := F8.binds (ps := ["a", "b"]) fun _ _ _ _ _ _ us hl => match us, hl with | [_, _], _ => rfl
  have F9 := fun_mk (st := s__law_least) l9 c9 k9
  have b9 := F9.binds (ps := ["a", "b"]) fun _ _ _ _ _ _ us hl => match us, hl with | [_, _], _ => rfl
  have F10 := fun_mk (st := s__law_holds) l10 c10 k10
  have b10 := F10.binds (ps := ["w"]) fun _ _ _ _ _ _ us hl => match us, hl with | [_], _ => rfl
  have F11 := fun_mk (st := s_law) l11 c11 k11
  refine ⟨PySem.W.fnOf "law" "law" (defArgs s_law) (defBody s_law) (defScope s_law) .none kV11 dc11 pm11 an11 cd11 ct11, cT, pT, tT, dT, mT, nT, fun s v => .of_eq rfl, fun base _ _ TB0 => ?_⟩
  have hkT : (tabK K).1 = pT := by
    unfold tabK
    rw [tT]
  have TB : LamX.TabB base mg cT (tabK K).1 := by
    rw [hkT]
    exact TB0
  have C_rooms_for : Cal l.prog w K mg base 4 "rooms_for" (SpT K f_rooms_for) := ⟨f0, _, ["pairs"], ok_rooms_for F0 hb TB eT, PySem.W.mg_of X G a0, k0, b0⟩
  have C_common : Cal l.prog w K mg base 1 "common" (SpP K 2 f_common) := ⟨f1, _, ["a", "b"], ok_common F1 hb, PySem.W.mg_of X G a1, k1, b1⟩
  have C_together : Cal l.prog w K mg base 2 "together" (SpP K 2 f_together) := ⟨f2, _, ["a", "b"], ok_together F2 hb C_common, PySem.W.mg_of X G a2, k2, b2⟩
  have C_fraction : Cal l.prog w K mg base 2 "fraction" (SpP K 2 f_fraction) := ⟨f3, _, ["upper", "lower"], ok_fraction F3 hb C_common, PySem.W.mg_of X G a3, k3, b3⟩
  have C_added : Cal l.prog w K mg base 3 "added" (SpP K 2 f_added) := ⟨f4, _, ["one", "other"], ok_added F4 hb C_fraction, PySem.W.mg_of X G a4, k4, b4⟩
  have C_rounds_fit : Cal l.prog w K mg base 4 "rounds_fit" (SpP K 1 f_rounds_fit) := ⟨f5, _, ["tasks"], ok_rounds_fit F5 hb C_added C_fraction C_together, PySem.W.mg_of X G a5, k5, b5⟩
  have C__law_draws : Cal l.prog w K mg base 1 "_law_draws" (SpD K fDraws) := ⟨f6, _, ["script", "many"], ok__law_draws F6 hb, PySem.W.mg_of X G a6, k6, b6⟩
  have C__law_next : Cal l.prog w K mg base 1 "_law_next" (SpW K 1 fNext) := ⟨f7, _, ["w", "many"], ok__law_next F7 hb, PySem.W.mg_of X G a7, k7, b7⟩
  have C__law_measure : Cal l.prog w K mg base 1 "_law_measure" (SpP K 2 f__law_measure) := ⟨f8, _, ["a", "b"], ok__law_measure F8 hb, PySem.W.mg_of X G a8, k8, b8⟩
  have C__law_least : Cal l.prog w K mg base 1 "_law_least" (SpP K 2 f__law_least) := ⟨f9, _, ["a", "b"], ok__law_least F9 hb, PySem.W.mg_of X G a9, k9, b9⟩
  have C__law_holds : Cal l.prog w K mg base 5 "_law_holds" (SpW K 0 f__law_holds) := ⟨f10, _, ["w"], ok__law_holds F10 hb C__law_least C__law_measure C__law_next C_rooms_for C_rounds_fit, PySem.W.mg_of X G a10, k10, b10⟩
  exact ok_law F11 hb hh C__law_draws C__law_holds
theorem walk {l : PySem.W.OpenLaw} {q : Program} {loose : List Str} {XP : (Str → Option Value) → Heap → Prop} {YP : World → Heap → Prop} {d : DefRec} {K : Params → PySem.W.Frag} {ts : List Addr} (hn : l.most = some 63) (hdf : d.params.defaults = [])
    (hY : ∀ (w : World) (h : Heap), YP w h → (K w.params).In h ∧ ∀ P ∈ ts, h.get? P = some (PySem.W.tabObj #[]))
    (F : ∀ (w : World) (mg : Str → Option Value) (fa : Addr) (h : Heap), (K w.params).In h → h.Ns mainGlobals mg → mg d.name = some (.ref fa) →
      ∃ (fd : FuncData) (c P : Addr), PySem.W.tabIn (K w.params) "rooms_for" = some (c, P) ∧ PySem.W.codeHdIn (K w.params) c P = true ∧ P ∈ ts ∧ (K w.params).lookup P = none ∧ (∀ (s : Shared) (u : Value), BindsTo s fd ⟨[u], []⟩ [("script", u)]) ∧
        ∀ base : Heap, (K w.params).In base → base.Ns mainGlobals mg → LamX.TabB base mg c P → FnOk l.prog w (K w.params) mg base CX0 6 fa fd ["script"] (SpLaw (K w.params) (some (tabK (K w.params))))) :
    PySem.W.WalkO q loose XP YP l.row.toRowW d [] (fun f vs => PySem.call f vs) := DL.walk_tab (n := 63) hn (by decide) hdf ⟨rfl, by decide, by decide⟩ hY F
end LK

open PySem PySem.W PyProof.Rows in
set_option maxRecDepth 100000 in
set_option maxHeartbeats 0 in
theorem PySem.Challenge.cw_daysworn_k17_whole_known_rooms_and_hands_holds : PySem.Challenge.rw_daysworn_k17_whole_known_rooms_and_hands.Holds := by
  w_on; o_law; k_head; (case hw => w_witness2)
  k_fill
  refine LK.walk (l := PySem.Challenge.rw_daysworn_k17_whole_known_rooms_and_hands) rfl rfl (ts := _) (fun w h Y => ⟨PySem.W.km_in_of Y, PySem.W.km_tabs_of Y⟩) ?F
  case F =>
    intro w mg fa h KX G hmg
    refine' LK.all_mk KX G hmg LK.hold_ok ?a0 ?l0 ?c0 ?k0 ?a1 ?l1 ?c1 ?k1 ?a2 ?l2 ?c2 ?k2 ?a3 ?l3 ?c3 ?k3 ?a4 ?l4 ?c4 ?k4 ?a5 ?l5 ?c5 ?k5 ?a6 ?l6 ?c6 ?k6 ?a7 ?l7 ?c7 ?k7 ?a8 ?l8 ?c8 ?k8 ?a9 ?l9 ?c9 ?k9 ?a10 ?l10 ?c10 ?k10 ?a11 ?l11 ?c11 ?k11 ?mT ?eT ?tT ?dT ?nT ?z0 ?z1 ?z2 ?z3 ?z4 ?z5 ?z6 ?z7 ?z8
    (case a0 => k_is)
    (case l0 => k_is)
    (case c0 => k_is)
    (case k0 => k_is)
    (case a1 => k_is)
    (case l1 => k_is)
    (case c1 => k_is)
    (case k1 => k_is)
    (case a2 => k_is)
    (case l2 => k_is)
    (case c2 => k_is)
    (case k2 => k_is)
    (case a3 => k_is)
    (case l3 => k_is)
    (case c3 => k_is)
    (case k3 => k_is)
    (case a4 => k_is)
    (case l4 => k_is)
    (case c4 => k_is)
    (case k4 => k_is)
    (case a5 => k_is)
    (case l5 => k_is)
    (case c5 => k_is)
    (case k5 => k_is)
    (case a6 => k_is)
    (case l6 => k_is)
    (case c6 => k_is)
    (case k6 => k_is)
    (case a7 => k_is)
    (case l7 => k_is)
    (case c7 => k_is)
    (case k7 => k_is)
    (case a8 => k_is)
    (case l8 => k_is)
    (case c8 => k_is)
    (case k8 => k_is)
    (case a9 => k_is)
    (case l9 => k_is)
    (case c9 => k_is)
    (case k9 => k_is)
    (case a10 => k_is)
    (case l10 => k_is)
    (case c10 => k_is)
    (case k10 => k_is)
    (case a11 => k_is)
    (case l11 => k_is)
    (case c11 => k_is)
    (case k11 => k_is)
    (case mT => exact List.mem_cons_self)
    (case eT => exact rfl)
    (case tT => kernel_rfl)
    (case dT => kernel_rfl)
    (case nT => kernel_rfl)
    (case z0 => k_is)
    (case z1 => k_is)
    (case z2 => k_is)
    (case z3 => k_is)
    (case z4 => k_is)
    (case z5 => k_is)
    (case z6 => k_is)
    (case z7 => k_is)
    (case z8 => k_is)

