import PyProof.Rows.All
import Wide.All
import OpenK.AllK
import Wide.FinOn
import HandS.ForMost
import HandS.Evl
import HandS.Lambda
import KE.KNest
import HandS.Style
import HandS.TupAny
import HandS.IsInst
import HandS.SortInts
import HandS.Wide
import HandS.Deep
import HandS.Conv
import HandS.Iter
import KE.KTupSum
import HandS.Codes
import HandS.TupLe
import HandS.SetFor
import HandS.Strs
import HandS.Zip
import HandS.SortRule
import HandS.TupSets
import KE.KeyNested
import KE.SortData
import KE.DataFind
import PySem.Challenge.RW_daysworn_k18_whole_known_lessons_in_few
set_option Elab.async false
set_option linter.all false
set_option maxRecDepth 100000
set_option maxHeartbeats 4000000
/-! DL, the data layer: what a piece of syntax computes, as a plain function on data (PyData). Part a: data on the heap, the state's relation. -/
namespace DL
open PySem PySem.Spec PyProof.Rows L2

/-! ### heaps -/
theorem same_new {H : Hp} {p : Addr} {o : HO} (h : H p = none) : Same H (upd H p o) := fun b x e => by
  rw [upd_ne (ne_of_none e h)]
  exact e
theorem same_mut {H H' : Hp} {p : Addr} {o : HO} (s : Same H H') (h : H p = none) : Same H (upd H' p o) := fun b x e => by
  rw [upd_ne (ne_of_none e h)]
  exact s b x e
theorem same_upd {F H : Hp} {p : Addr} {o : HO} (s : Same F H) (h : H p = some o) : Same (upd F p o) H := fun b x e => by
  by_cases hb : b = p
  · subst hb; rw [upd_same] at e; rw [h, ← e]
  · rw [upd_ne hb] at e
    exact s b x e
theorem same_both {F H : Hp} {p : Addr} {o : HO} (s : Same F H) : Same (upd F p o) (upd H p o) := fun b x e => by
  by_cases hb : b = p
  · subst hb; rw [upd_same] at e ⊢; exact e
  · rw [upd_ne hb] at e ⊢
    exact s b x e
theorem same_none {F H : Hp} {p : Addr} (s : Same F H) (h : H p = none) : F p = none := s.free h
theorem sqt_mono {K : PySem.W.Frag} {H H' : Hp} {a : Addr} {xs : List V} (e : Same H H') (h : SqT K H a xs) : SqT K H' a xs := by
  rcases h with (h | ⟨o, h⟩) | h
  · exact .inl (.inl (e _ _ h))
  · exact .inl (.inr ⟨o, e _ _ h⟩)
  · exact .inr h

/-! ### data on the heap -/
def keyD : Key → PyData
  | .inl i => .int i
  | .inr x => .str x
mutual
inductive Rp (K : PySem.W.Frag) (F : Hp) : V → PyData → Prop
  | non : Rp K F .non .none
  | bl (b : Bool) : Rp K F (.bl b) (.bool b)
  | int (i : Int) : Rp K F (.int i) (.int i)
  | str (x : Str) : Rp K F (.str x) (.str x)
  | lst {a : Addr} {xs : List V} {ds : List PyData} : F a = some (.lst xs) → RpAll K F xs ds → Rp K F (.ref a) (.list ds)
  | tup {a : Addr} {xs : List V} {ds : List PyData} : SqT K F a xs → RpAll K F xs ds → Rp K F (.ref a) (.tuple ds)
  | dK {a : Addr} {kvs : List (Key × V)} {ds : List (PyData × PyData)} : F a = some (.dK kvs) → (kvs.map (·.1)).Nodup → RpKv K F kvs ds → Rp K F (.ref a) (.dict ds)
  | dT {a : Addr} {kvs : List (List Key × V)} {ds : List (PyData × PyData)} : F a = some (.dT kvs) → (kvs.map (·.1)).Nodup → RpTv K F kvs ds → Rp K F (.ref a) (.dict ds)
inductive RpAll (K : PySem.W.Frag) (F : Hp) : List V → List PyData → Prop
  | nil : RpAll K F [] []
  | cons {v : V} {vs : List V} {d : PyData} {ds : List PyData} : Rp K F v d → RpAll K F vs ds → RpAll K F (v :: vs) (d :: ds)
inductive RpKv (K : PySem.W.Frag) (F : Hp) : List (Key × V) → List (PyData × PyData) → Prop
  | nil : RpKv K F [] []
  | cons {k : Key} {v : V} {vs : List (Key × V)} {d : PyData} {ds : List (PyData × PyData)} : Rp K F v d → RpKv K F vs ds → RpKv K F ((k, v) :: vs) ((keyD k, d) :: ds)
inductive RpTv (K : PySem.W.Frag) (F : Hp) : List (List Key × V) → List (PyData × PyData) → Prop
  | nil : RpTv K F [] []
  | cons {k : List Key} {v : V} {vs : List (List Key × V)} {d : PyData} {ds : List (PyData × PyData)} : Rp K F v d → RpTv K F vs ds → RpTv K F ((k, v) :: vs) ((.tuple (k.map keyD), d) :: ds)
end
mutual
theorem Rp.mono {K : PySem.W.Frag} {F F' : Hp} (s : Same F F') : ∀ {v : V} {d : PyData}, Rp K F v d → Rp K F' v d
  | _, _, .non => .non
  | _, _, .bl b => .bl b
  | _, _, .int i => .int i
  | _, _, .str x => .str x
  | _, _, .lst h r => .lst (s _ _ h) (RpAll.mono s r)
  | _, _, .tup h r => .tup (sqt_mono s h) (RpAll.mono s r)
  | _, _, .dK h n r => .dK (s _ _ h) n (RpKv.mono s r)
  | _, _, .dT h n r => .dT (s _ _ h) n (RpTv.mono s r)
theorem RpAll.mono {K : PySem.W.Frag} {F F' : Hp} (s : Same F F') : ∀ {v : List V} {d : List PyData}, RpAll K F v d → RpAll K F' v d
  | _, _, .nil => .nil
  | _, _, .cons h r => .cons (Rp.mono s h) (RpAll.mono s r)
theorem RpKv.mono {K : PySem.W.Frag} {F F' : Hp} (s : Same F F') : ∀ {v : List (Key × V)} {d : List (PyData × PyData)}, RpKv K F v d → RpKv K F' v d
  | _, _, .nil => .nil
  | _, _, .cons h r => .cons (Rp.mono s h) (RpKv.mono s r)
theorem RpTv.mono {K : PySem.W.Frag} {F F' : Hp} (s : Same F F') : ∀ {v : List (List Key × V)} {d : List (PyData × PyData)}, RpTv K F v d → RpTv K F' v d
  | _, _, .nil => .nil
  | _, _, .cons h r => .cons (Rp.mono s h) (RpTv.mono s r)
end
section
variable {K : PySem.W.Frag} {F : Hp}
theorem Rp.non_inv {v : V} (h : Rp K F v .none) : v = .non := by cases h; rfl
theorem Rp.bl_inv {v : V} {b : Bool} (h : Rp K F v (.bool b)) : v = .bl b := by cases h; rfl
theorem Rp.int_inv {v : V} {i : Int} (h : Rp K F v (.int i)) : v = .int i := by cases h; rfl
theorem Rp.str_inv {v : V} {x : Str} (h : Rp K F v (.str x)) : v = .str x := by cases h; rfl
theorem Rp.lst_inv {v : V} {ds : List PyData} (h : Rp K F v (.list ds)) : ∃ a xs, v = .ref a ∧ F a = some (.lst xs) ∧ RpAll K F xs ds := by
  cases h with
  | lst h r => exact ⟨_, _, rfl, h, r⟩
theorem Rp.tup_inv {v : V} {ds : List PyData} (h : Rp K F v (.tuple ds)) : ∃ a xs, v = .ref a ∧ SqT K F a xs ∧ RpAll K F xs ds := by
  cases h with
  | tup h r => exact ⟨_, _, rfl, h, r⟩
theorem RpAll.len : ∀ {xs : List V} {ds : List PyData}, RpAll K F xs ds → xs.length = ds.length
  | _, _, .nil => rfl
  | _, _, .cons _ r => congrArg (· + 1) (RpAll.len r)
theorem RpAll.get : ∀ {xs : List V} {ds : List PyData} {i : Nat} {d : PyData}, RpAll K F xs ds → ds[i]? = some d → ∃ x, xs[i]? = some x ∧ Rp K F x d
  | _, _, _, _, .nil, e => by simp at e
  | _, _, 0, _, .cons h _, e => by simp at e; subst e; exact ⟨_, rfl, h⟩
  | _, _, i + 1, d, .cons _ r, e => by
    obtain ⟨x, h1, h2⟩ := RpAll.get (i := i) (d := d) r (by simpa using e)
    exact ⟨x, by simpa using h1, h2⟩
theorem RpAll.get' : ∀ {xs : List V} {ds : List PyData} {i : Nat} {x : V}, RpAll K F xs ds → xs[i]? = some x → ∃ d, ds[i]? = some d ∧ Rp K F x d
  | _, _, _, _, .nil, e => by simp at e
  | _, _, 0, _, .cons h _, e => by simp at e; subst e; exact ⟨_, rfl, h⟩
  | _, _, i + 1, d, .cons _ r, e => by
    obtain ⟨x, h1, h2⟩ := RpAll.get' (i := i) (x := d) r (by simpa using e)
    exact ⟨x, by simpa using h1, h2⟩
theorem RpAll.append : ∀ {xs ys : List V} {ds es : List PyData}, RpAll K F xs ds → RpAll K F ys es → RpAll K F (xs ++ ys) (ds ++ es)
  | _, _, _, _, .nil, s => s
  | _, _, _, _, .cons h r, s => .cons h (RpAll.append r s)
theorem RpAll.one {x : V} {d : PyData} (h : Rp K F x d) : RpAll K F [x] [d] := .cons h .nil
theorem RpAll.set {x : V} {d : PyData} (h : Rp K F x d) : ∀ {xs : List V} {ds : List PyData} (i : Nat), RpAll K F xs ds → RpAll K F (xs.set i x) (ds.set i d)
  | _, _, _, .nil => .nil
  | _, _, 0, .cons _ r => .cons h r
  | _, _, i + 1, .cons q r => .cons q (RpAll.set h i r)
theorem RpAll.take : ∀ {xs : List V} {ds : List PyData} (n : Nat), RpAll K F xs ds → RpAll K F (xs.take n) (ds.take n)
  | _, _, 0, _ => .nil
  | _, _, _ + 1, .nil => .nil
  | _, _, n + 1, .cons h r => .cons h (RpAll.take n r)
theorem RpAll.drop : ∀ {xs : List V} {ds : List PyData} (n : Nat), RpAll K F xs ds → RpAll K F (xs.drop n) (ds.drop n)
  | _, _, 0, r => r
  | _, _, _ + 1, .nil => .nil
  | _, _, n + 1, .cons _ r => RpAll.drop n r
theorem RpAll.dropLast : ∀ {xs : List V} {ds : List PyData}, RpAll K F xs ds → RpAll K F xs.dropLast ds.dropLast
  | _, _, .nil => .nil
  | _, _, .cons _ .nil => .nil
  | _, _, .cons h (.cons h2 r) => .cons h (RpAll.dropLast (.cons h2 r))
theorem RpAll.ints : ∀ (ns : List Int), RpAll K F (ns.map V.int) (ns.map PyData.int)
  | [] => .nil
  | n :: r => .cons (.int n) (RpAll.ints r)
theorem RpAll.ints_inv : ∀ {xs : List V} {ns : List Int}, RpAll K F xs (ns.map PyData.int) → xs = ns.map V.int
  | _, [], .nil => rfl
  | _, n :: r, .cons h t => by rw [h.int_inv, RpAll.ints_inv t]; rfl
theorem RpAll.bls_inv : ∀ {xs : List V} {ns : List Bool}, RpAll K F xs (ns.map PyData.bool) → xs = ns.map V.bl
  | _, [], .nil => rfl
  | _, n :: r, .cons h t => by rw [h.bl_inv, RpAll.bls_inv t]; rfl
theorem RpAll.rep {xs : List V} {ds : List PyData} (r : RpAll K F xs ds) : ∀ k : Nat, RpAll K F (List.replicate k xs).flatten (List.replicate k ds).flatten
  | 0 => .nil
  | k + 1 => by
    rw [List.replicate_succ, List.replicate_succ, List.flatten_cons, List.flatten_cons]
    exact r.append (RpAll.rep r k)
end
/-! without dicts: as the deep comparison of the layer wants it -/
mutual
theorem Rp.dp {K : PySem.W.Frag} {F : Hp} : ∀ {v : V} {d : PyData}, Rp K F v d → d.canLay0 = true → Dp K F v d
  | _, _, .non, _ => .non
  | _, _, .bl b, _ => .bl b
  | _, _, .int i, _ => .int i
  | _, _, .str x, _ => .str x
  | _, _, .lst h r, c => .lst (SqL.of h) (RpAll.dp r (by simpa [PyData.canLay0] using c))
  | _, _, .tup h r, c => .tup h (RpAll.dp r (by simpa [PyData.canLay0] using c))
  | _, _, .dK _ _ _, c => by simp [PyData.canLay0] at c
  | _, _, .dT _ _ _, c => by simp [PyData.canLay0] at c
theorem RpAll.dp {K : PySem.W.Frag} {F : Hp} : ∀ {v : List V} {d : List PyData}, RpAll K F v d → PyData.canLayAll0 d = true → DpAll K F v d
  | _, _, .nil, _ => .nil
  | _, _, .cons h r, c => by
    simp only [PyData.canLayAll0, Bool.and_eq_true] at c
    exact .cons (Rp.dp h c.1) (RpAll.dp r c.2)
end
/-- read now: a datum, or a list that is still one's own -/
def Lp (K : PySem.W.Frag) (F H : Hp) (v : V) (d : PyData) : Prop := Rp K F v d ∨ ∃ a xs ds, d = .list ds ∧ v = .ref a ∧ H a = some (.lst xs) ∧ RpAll K F xs ds
section
variable {K : PySem.W.Frag} {F H F' H' : Hp} {v : V} {d : PyData}
theorem Lp.mono (s : Same F F') (s' : Same H H') (h : Lp K F H v d) : Lp K F' H' v d := by
  rcases h with h | ⟨a, xs, ds, e, e2, h, r⟩
  · exact .inl (h.mono s)
  · exact .inr ⟨a, xs, ds, e, e2, s' _ _ h, r.mono s⟩
theorem Lp.weak (s : Same F H) (h : Lp K F H v d) : Rp K H v d := by
  rcases h with h | ⟨a, xs, ds, rfl, rfl, h, r⟩
  · exact h.mono s
  · exact .lst h (r.mono s)
theorem Lp.int_inv {i : Int} (h : Lp K F H v (.int i)) : v = .int i := by
  rcases h with h | ⟨a, xs, ds, e, _⟩
  · exact h.int_inv
  · cases e
theorem Lp.bl_inv {b : Bool} (h : Lp K F H v (.bool b)) : v = .bl b := by
  rcases h with h | ⟨a, xs, ds, e, _⟩
  · exact h.bl_inv
  · cases e
theorem Lp.str_inv {x : Str} (h : Lp K F H v (.str x)) : v = .str x := by
  rcases h with h | ⟨a, xs, ds, e, _⟩
  · exact h.str_inv
  · cases e
theorem Lp.non_inv (h : Lp K F H v .none) : v = .non := by
  rcases h with h | ⟨a, xs, ds, e, _⟩
  · exact h.non_inv
  · cases e
theorem Lp.tup_inv {ds : List PyData} (h : Lp K F H v (.tuple ds)) : ∃ a xs, v = .ref a ∧ SqT K F a xs ∧ RpAll K F xs ds := by
  rcases h with h | ⟨a, xs, ds, e, _⟩
  · exact h.tup_inv
  · cases e
theorem Lp.lst_inv (s : Same F H) {ds : List PyData} (h : Lp K F H v (.list ds)) : ∃ a xs, v = .ref a ∧ H a = some (.lst xs) ∧ RpAll K F xs ds := by
  rcases h with h | ⟨a, xs, ds, e, e2, h, r⟩
  · obtain ⟨a, xs, e, h, r⟩ := h.lst_inv
    exact ⟨a, xs, e, s _ _ h, r⟩
  · cases e
    exact ⟨a, xs, e2, h, r⟩
end

/-! ### the state: frozen part F, others' part B, the draws' dict W -/
structure Zn (F B H : Hp) : Prop where
  ff : Same F H
  bb : Same B H
  dj : ∀ a o, B a = some o → F a = none
/-- the class Table -/
def clsK (K : PySem.W.Frag) : Addr := match PySem.W.nsIn K mainGlobals "Table" with
  | some (some (.ref C)) => C
  | _ => 0
/-- its instance's attributes -/
def fsT (vl : V) (many : Int) (h : Addr) : List (Str × V) := [(("lessons" : Str), vl), (("many" : Str), .int many), (("hours" : Str), .ref h)]
/-- what is handed on and changes: the draws; an object with a list -/
inductive Tag where
  | draws (ws : List Int)
  | obj (ls : PyData) (many : Int)
  | tabt
/-- a digit's hour: none, 0, 1, .. -/
def digV (d : Nat) : V := if d = 0 then .non else .int ((d : Int) - 1)
/-- the list of hours that a number tells: digits to the base 32, the last one first, ended by 1 -/
def hoursV : Nat → Nat → List V
  | 0, _ => []
  | f + 1, n => if n ≤ 1 then [] else digV (n % 32) :: hoursV f (n / 32)
/-- dr: the dict of the draws at a, its list at l, and, where the program makes lambdas, the maker's table of code objects; tb: an object at o of the class C, its list at h; tab: the table alone -/
inductive Wl where
  | dr (a l : Addr) (ws : List Int) (t : Option (Addr × Str))
  | tb (K0 : PySem.W.Frag) (h o dx : Addr) (vl : V) (ls : PyData) (many : Int)
  | tab (T : Addr × Str)
def drOb (l : Addr) (n : Nat) : HO := .dK [(.inr ("draws" : Str), .ref l), (.inr ("at" : Str), .int (n : Int))]
namespace Wl
/-- the addresses that change -/
def ch : Wl → Addr → Prop
  | dr a _ _ t, x => a = x ∨ ∃ T, t = some T ∧ T.1 = x
  | tb _ h _ _ _ _ _, x => h = x
  | tab T, x => T.1 = x
/-- by which it is handed on -/
def self : Wl → Addr
  | dr a _ _ _ => a
  | tb _ _ o _ _ _ _ => o
  | tab T => T.1
/-- what stands at those that change -/
def now : Wl → Hp → Nat → Prop
  | dr a l _ t, H, n => H a = some (drOb l n) ∧ ∀ T, t = some T → LamX.TabS H T.1 T.2
  | tb _ h _ _ _ _ _, H, n => H h = some (.lst (hoursV 64 n))
  | tab T, H, _ => LamX.TabS H T.1 T.2
/-- what is frozen of it -/
def fro : Wl → Hp → Prop
  | dr _ l ws _, F => F l = some (.lst (ws.map V.int))
  | tb K0 h o dx vl ls many, F => F o = some (.ins (clsK K0) dx (fsT vl many h)) ∧ Rp K0 F vl ls
  | tab _, _ => True
def tag : Wl → Tag
  | dr _ _ ws _ => .draws ws
  | tb _ _ _ _ _ ls many => .obj ls many
  | tab _ => .tabt
/-- it is read over this frame -/
def tok : Wl → PySem.W.Frag → Prop
  | tb K0 _ _ _ _ _ _, K => K0 = K
  | _, _ => True
theorem mono : ∀ (w : Wl) {F F' : Hp}, Same F F' → w.fro F → w.fro F'
  | dr _ _ _ _, _, _, s, h => s _ _ h
  | tb _ _ _ _ _ _ _, _, _, s, h => ⟨s _ _ h.1, h.2.mono s⟩
  | tab _, _, _, _, h => h
theorem own : ∀ (w : Wl) {F : Hp}, w.fro F → w.ch w.self ∨ ∃ o, F w.self = some o
  | dr _ _ _ _, _, _ => .inl (.inl rfl)
  | tb _ _ _ _ _ _ _, _, h => .inr ⟨_, h.1⟩
  | tab _, _, _ => .inl rfl
theorem tag_draws {w : Wl} {ws : List Int} (h : w.tag = .draws ws) : ∃ a l t, w = dr a l ws t := by
  cases w with
  | dr a l ws' t =>
    cases h
    exact ⟨a, l, t, rfl⟩
  | tb _ _ _ _ _ _ _ => cases h
  | tab _ => cases h
/-- there is something at them -/
theorem there {w : Wl} {H : Hp} {n : Nat} {x : Addr} (h : w.now H n) (c : w.ch x) : ∃ o, H x = some o := by
  cases w with
  | dr a l ws t =>
    rcases c with rfl | ⟨T, e, rfl⟩
    · exact ⟨_, h.1⟩
    · obtain ⟨ps, q, _⟩ := h.2 T e
      exact ⟨_, q⟩
  | tb _ _ _ _ _ _ _ =>
    cases c
    exact ⟨_, h⟩
  | tab T =>
    cases c
    obtain ⟨ps, q, _⟩ := h
    exact ⟨_, q⟩
/-- a code object -/
def IsCode (o : HO) : Prop := ∃ c q, o = LamX.CodeO c q
theorem not_code {o : HO} (h : ∀ g, o ≠ .ext g) : ¬ IsCode o := fun ⟨c, q, e⟩ => by
  unfold LamX.CodeO at e
  exact h _ e
theorem lst_code {H : Hp} {p : Addr} {xs : List V} (h : H p = some (.lst xs)) : ∀ o, H p = some o → ¬ IsCode o := fun o e => by
  rw [h] at e
  cases e
  exact not_code fun g z => by cases z
theorem dK_code {H : Hp} {p : Addr} {xs : List (Key × V)} (h : H p = some (.dK xs)) : ∀ o, H p = some o → ¬ IsCode o := fun o e => by
  rw [h] at e
  cases e
  exact not_code fun g z => by cases z
theorem dT_code {H : Hp} {p : Addr} {xs : List (List Key × V)} (h : H p = some (.dT xs)) : ∀ o, H p = some o → ¬ IsCode o := fun o e => by
  rw [h] at e
  cases e
  exact not_code fun g z => by cases z
theorem tab_keep {H H' : Hp} {T : Addr × Str} (h : LamX.TabS H T.1 T.2) (k : ∀ o, H T.1 = some o → H' T.1 = some o) (c : ∀ b o, H b = some o → IsCode o → H' b = some o) : LamX.TabS H' T.1 T.2 := by
  obtain ⟨ps, h1, h2, h3⟩ := h
  refine ⟨ps, k _ h1, h2, fun pos cv hc => ?_⟩
  obtain ⟨x, e1, e2⟩ := h3 pos cv hc
  exact ⟨x, e1, c _ _ e2 ⟨_, _, rfl⟩⟩
theorem keep {w : Wl} {H H' : Hp} {n : Nat} (h : w.now H n) (k : ∀ b o, H b = some o → w.ch b → H' b = some o) (c : ∀ b o, H b = some o → IsCode o → H' b = some o) : w.now H' n := by
  cases w with
  | dr a l ws t => exact ⟨k _ _ h.1 (.inl rfl), fun T e => tab_keep (h.2 T e) (fun o q => k _ o q (.inr ⟨T, e, rfl⟩)) c⟩
  | tb _ _ _ _ _ _ _ => exact k _ _ h rfl
  | tab T => exact tab_keep h (fun o q => k _ o q rfl) c
/-- something that is neither of these nor a code object is changed -/
theorem upd_now {w : Wl} {H : Hp} {n : Nat} {p : Addr} {u : HO} (h : w.now H n) (k : ¬ w.ch p) (c : ∀ o, H p = some o → ¬ IsCode o) : w.now (upd H p u) n := keep h (fun b o e q => by
  rw [upd_ne (show b ≠ p from fun z => k (z ▸ q))]
  exact e) fun b o e q => by
  rw [upd_ne (show b ≠ p from fun z => c o (z ▸ e) q)]
  exact e
theorem same {w : Wl} {H H' : Hp} {n : Nat} (h : w.now H n) (s : Same H H') : w.now H' n := keep h (fun b o e _ => s b o e) fun b o e _ => s b o e
end Wl
/-- this is not what W changes -/
def Nch (W : Option Wl) (x : Addr) : Prop := ∀ w, W = some w → ¬ w.ch x
def WOk (F B H : Hp) (n : Nat) : Option Wl → Prop
  | none => True
  | some w => w.now H n ∧ w.fro F ∧ ∀ x, w.ch x → F x = none ∧ B x = none
inductive En where
  | val (d : PyData)
  | own (ds : List PyData)
  | dct (kvs : List (PyData × PyData))
  | wdr (t : Tag)
  | scr (ns : List Int)
  | tabv (d : PyData)
/-- the table of code objects of rooms_for, and its lambda's name -/
def lamQ : Str := (("rooms_for" : Str) ++ ".<locals>.") ++ "<lambda>"
def tabK (K : PySem.W.Frag) : Addr × Str := match PySem.W.tabIn K "rooms_for" with
  | some (_, P) => (P, lamQ)
  | none => (0, lamQ)
abbrev Env := List (Option En)
/-- a tuple that was made here: nothing hangs on it -/
def NoD (F : Hp) (v : V) : Prop := ∃ (a : Addr) (o : Obj) (xs : List V), v = .ref a ∧ F a = some (.frz o (.tup xs)) ∧ o.dict = none
theorem NoD.mono {F F' : Hp} {v : V} (s : Same F F') (h : NoD F v) : NoD F' v := by
  obtain ⟨a, o, xs, e, h1, h2⟩ := h
  exact ⟨a, o, xs, e, s _ _ h1, h2⟩
def EnOk (K : PySem.W.Frag) (F B H : Hp) (W : Option Wl) : En → V → Prop
  | .val d, v => Rp K F v d
  | .own ds, v => ∃ a xs, v = .ref a ∧ H a = some (.lst xs) ∧ RpAll K F xs ds ∧ F a = none ∧ (B a = none ∧ Nch W a)
  | .dct kvs, v => ∃ a, v = .ref a ∧ F a = none ∧ (B a = none ∧ Nch W a) ∧ ((∃ xs, H a = some (.dK xs) ∧ (xs.map (·.1)).Nodup ∧ RpKv K F xs kvs) ∨ ∃ xs ks, kvs = (.none, .none) :: ks ∧ H a = some (.dT xs) ∧ (xs.map (·.1)).Nodup ∧ RpTv K F xs ks)
  | .wdr t, v => ∃ w, W = some w ∧ w.tag = t ∧ v = .ref w.self ∧ w.tok K
  | .scr ns, v => ∃ a, v = .ref a ∧ SqL K F a (ns.map V.int)
  | .tabv d, v => Rp K F v d ∧ NoD F v
def En.mut : En → Bool
  | .own _ => true
  | .dct _ => true
  | .wdr _ => true
  | _ => false
structure Rl (K : PySem.W.Frag) (F B : Hp) (W : Option Wl) (σ : L2.St) (H : Hp) (env : Env) (n : Nat) : Prop where
  zn : Zn F B H
  wo : WOk F B H n W
  sl : ∀ (i : Nat) (e : En), env[i]? = some (some e) → ∃ v, σ[i]? = some (some v) ∧ EnOk K F B H W e v
  ap : ∀ (i j : Nat) (e e' : En) (v : V), i ≠ j → env[i]? = some (some e) → env[j]? = some (some e') → e.mut = true → e'.mut = true → σ[i]? = some (some v) → σ[j]? ≠ some (some v)
  le : env.length = σ.length
/-- the frozen part grows, the heap keeps all, what was one's own stays so -/
structure Gr (F H F' H' : Hp) : Prop where
  f : Same F F'
  h : Same H H'
  z : Same F' H'
  o : ∀ a x, H a = some x → F a = none → F' a = none
section
variable {K : PySem.W.Frag} {F B H F' H' F2 H2 : Hp} {W : Option Wl} {σ : L2.St} {env : Env} {n : Nat} {p : Addr} {u : HO}
theorem Gr.refl (s : Same F H) : Gr F H F H := ⟨.refl _, .refl _, s, fun _ _ _ h => h⟩
theorem Gr.trans (a : Gr F H F' H') (b : Gr F' H' F2 H2) : Gr F H F2 H2 := ⟨a.f.trans b.f, a.h.trans b.h, b.z, fun x y e n => b.o x y (a.h _ _ e) (a.o x y e n)⟩
theorem Gr.new (s : Same F H) (h : H p = none) : Gr F H (upd F p u) (upd H p u) := by
  refine ⟨same_new (same_none s h), same_new h, same_both s, fun a x e n => ?_⟩
  rw [upd_ne (ne_of_none e h)]
  exact n
/-- a new thing that stays one's own -/
theorem Gr.mine (s : Same F H) (h : H p = none) : Gr F H F (upd H p u) := ⟨.refl _, same_new h, s.trans (same_new h), fun _ _ _ n => n⟩
theorem EnOk.gr {e : En} {v : V} (g : Gr F H F' H') (h : EnOk K F B H W e v) : EnOk K F' B H' W e v := by
  cases e with
  | val d => exact Rp.mono g.f h
  | own ds =>
    obtain ⟨a, xs, e, h, r, f, b⟩ := h
    exact ⟨a, xs, e, g.h _ _ h, r.mono g.f, g.o _ _ h f, b⟩
  | dct kvs =>
    obtain ⟨a, e, f, b, h⟩ := h
    rcases h with ⟨xs, h, n, r⟩ | ⟨xs, ks, ek, h, n, r⟩
    · exact ⟨a, e, g.o _ _ h f, b, .inl ⟨xs, g.h _ _ h, n, r.mono g.f⟩⟩
    · exact ⟨a, e, g.o _ _ h f, b, .inr ⟨xs, ks, ek, g.h _ _ h, n, r.mono g.f⟩⟩
  | wdr ws => exact h
  | scr ns =>
    obtain ⟨a, e, h⟩ := h
    exact ⟨a, e, g.f.seq h⟩
  | tabv d => exact ⟨Rp.mono g.f h.1, h.2.mono g.f⟩
theorem WOk.gr (g : Gr F H F' H') (h : WOk F B H n W) : WOk F' B H' n W := by
  cases W with
  | none => trivial
  | some w =>
    obtain ⟨h1, h2, h3⟩ := h
    refine ⟨Wl.same h1 g.h, w.mono g.f h2, fun x c => ?_⟩
    obtain ⟨o, e⟩ := Wl.there h1 c
    exact ⟨g.o _ _ e (h3 x c).1, (h3 x c).2⟩
theorem Zn.gr (g : Gr F H F' H') (h : Zn F B H) : Zn F' B H' := ⟨g.z, h.bb.trans g.h, fun a o e => g.o a o (h.bb _ _ e) (h.dj a o e)⟩
theorem Rl.gr (g : Gr F H F' H') (r : Rl K F B W σ H env n) : Rl K F' B W σ H' env n :=
  ⟨r.zn.gr g, r.wo.gr g, fun i e h => let ⟨v, h1, h2⟩ := r.sl i e h; ⟨v, h1, h2.gr g⟩, r.ap, r.le⟩
end
end DL

/-! DL, part b: denotations, judgements, expressions. -/
namespace DL
open PySem PySem.Spec PyProof.Rows L2

/-! ### denotations -/
/-- how many draws are taken, handed on -/
abbrev OM (α : Type) := Nat → Option (α × Nat)
def ret {α : Type} (a : α) : OM α := fun n => some (a, n)
def fail {α : Type} : OM α := fun _ => none
def lift {α : Type} (o : Option α) : OM α := fun n => match o with
  | none => none
  | some a => some (a, n)
def bnd {α β : Type} (m : OM α) (f : α → OM β) : OM β := fun n => match m n with
  | none => none
  | some (a, n') => f a n'
abbrev DM := Env → OM PyData
abbrev TM := Env → OM Bool
abbrev AM := Env → OM (List PyData)
theorem bnd_some {α β : Type} {m : OM α} {f : α → OM β} {n n' : Nat} {b : β} (h : bnd m f n = some (b, n')) : ∃ a n1, m n = some (a, n1) ∧ f a n1 = some (b, n') := by
  unfold bnd at h
  split at h
  · cases h
  · exact ⟨_, _, by assumption, h⟩
theorem lift_some {α : Type} {o : Option α} {n n' : Nat} {b : α} (h : lift o n = some (b, n')) : o = some b ∧ n' = n := by
  unfold lift at h
  split at h
  · cases h
  · cases h
    exact ⟨rfl, rfl⟩
theorem ret_some {α : Type} {a b : α} {n n' : Nat} (h : ret a n = some (b, n')) : b = a ∧ n' = n := by
  cases h
  exact ⟨rfl, rfl⟩

/-! ### readings -/
/-- how an expression leaves the heap: the frozen part grows, all is kept but the draws' dict -/
structure Go (W : Option Wl) (F H F' H' : Hp) : Prop where
  f : Same F F'
  h : ∀ a o, H a = some o → Nch W a → H' a = some o
section
variable {W : Option Wl} {F H F' H' F2 H2 : Hp}
theorem Go.refl : Go W F H F H := ⟨.refl _, fun _ _ h _ => h⟩
theorem Go.trans (a : Go W F H F' H') (b : Go W F' H' F2 H2) : Go W F H F2 H2 := ⟨a.f.trans b.f, fun x y e n => b.h x y (a.h x y e n) n⟩
theorem Go.of (g : Gr F H F' H') : Go W F H F' H' := ⟨g.f, fun a o e _ => g.h a o e⟩
/-- readable now, and not what W changes (or frozen) -/
structure LpW (K : PySem.W.Frag) (F H : Hp) (W : Option Wl) (v : V) (d : PyData) : Prop where
  lp : Lp K F H v d
  nw : ∀ w a, W = some w → v = .ref a → w.ch a → Rp K F v d
theorem LpW.of {K : PySem.W.Frag} {v : V} {d : PyData} (h : Rp K F v d) : LpW K F H W v d := ⟨.inl h, fun _ _ _ _ _ => h⟩
theorem LpW.go {K : PySem.W.Frag} {v : V} {d : PyData} (g : Go W F H F' H') (h : LpW K F H W v d) : LpW K F' H' W v d := by
  refine ⟨?_, fun w a e z c => (h.nw w a e z c).mono g.f⟩
  rcases h.lp with q | ⟨a, xs, ds, e, e2, q, r⟩
  · exact .inl (q.mono g.f)
  · by_cases c : Nch W a
    · exact .inr ⟨a, xs, ds, e, e2, g.h _ _ q c, r.mono g.f⟩
    · have : ∃ w, W = some w ∧ w.ch a := Classical.byContradiction fun z => c fun w e z' => z ⟨w, e, z'⟩
      obtain ⟨w, e', z⟩ := this
      exact .inl ((h.nw w a e' e2 z).mono g.f)
theorem LpW.gr {K : PySem.W.Frag} {v : V} {d : PyData} (g : Gr F H F' H') (h : LpW K F H W v d) : LpW K F' H' W v d := h.go (.of g)
inductive LpWAll (K : PySem.W.Frag) (F H : Hp) (W : Option Wl) : List V → List PyData → Prop
  | nil : LpWAll K F H W [] []
  | cons {v : V} {vs : List V} {d : PyData} {ds : List PyData} : LpW K F H W v d → LpWAll K F H W vs ds → LpWAll K F H W (v :: vs) (d :: ds)
end
section
variable (K : PySem.W.Frag)
def rdE (m : DM) : TE := fun σ H Q => ∃ F B W env n d n', Rl K F B W σ H env n ∧ m env n = some (d, n') ∧ ∀ v F' H', Go W F H F' H' → Rl K F' B W σ H' env n' → Rp K F' v d → Q v H'
/-- a list may be one's own -/
def rdL (m : DM) : TE := fun σ H Q => ∃ F B W env n d n', Rl K F B W σ H env n ∧ m env n = some (d, n') ∧ ∀ v F' H', Go W F H F' H' → Rl K F' B W σ H' env n' → LpW K F' H' W v d → Q v H'
/-- a new list -/
def rdF (m : AM) : TE := fun σ H Q => ∃ F B W env n ds n', Rl K F B W σ H env n ∧ m env n = some (ds, n') ∧ ∀ p xs F' H', Go W F H F' H' → Rl K F' B W σ H' env n' → H p = none → H' p = some (.lst xs) → F' p = none → RpAll K F' xs ds → Q (.ref p) H'
def rdT (m : TM) : TT := fun σ H Q => ∃ F B W env n b n', Rl K F B W σ H env n ∧ m env n = some (b, n') ∧ ∀ F' H', Go W F H F' H' → Rl K F' B W σ H' env n' → Q b H'
def rdA (m : AM) : TA := fun σ H Q => ∃ F B W env n ds n', Rl K F B W σ H env n ∧ m env n = some (ds, n') ∧ ∀ vs F' H', Go W F H F' H' → Rl K F' B W σ H' env n' → RpAll K F' vs ds → Q vs H'
inductive LpAll (F H : Hp) : List V → List PyData → Prop
  | nil : LpAll F H [] []
  | cons {v : V} {vs : List V} {d : PyData} {ds : List PyData} : Lp K F H v d → LpAll F H vs ds → LpAll F H (v :: vs) (d :: ds)
def rdAL (m : AM) : TA := fun σ H Q => ∃ F B W env n ds n', Rl K F B W σ H env n ∧ m env n = some (ds, n') ∧ ∀ vs F' H', Go W F H F' H' → Rl K F' B W σ H' env n' → LpWAll K F' H' W vs ds → Q vs H'
theorem LpWAll.all {F H : Hp} {W : Option Wl} {vs : List V} {ds : List PyData} (h : LpWAll K F H W vs ds) : LpAll K F H vs ds := by
  induction h with
  | nil => exact .nil
  | cons h _ ih => exact .cons h.lp ih
end
section
variable {X : Cx}
theorem _root_.L2.PE.imp {e : Expr} {t t' : TE} (h : PE X e t) (k : ∀ σ H Q, t' σ H Q → t σ H Q) : PE X e t' := ⟨fun pins s σ H Q I w => h.run pins s σ H Q I (k σ H Q w)⟩
theorem _root_.L2.PT.imp {e : Expr} {t t' : TT} (h : PT X e t) (k : ∀ σ H Q, t' σ H Q → t σ H Q) : PT X e t' := ⟨fun pins s σ H Q I w => h.run pins s σ H Q I (k σ H Q w)⟩
theorem _root_.L2.PW.imp {e : Expr} {t t' : TT} (h : PW X e t) (k : ∀ σ H Q, t' σ H Q → t σ H Q) : PW X e t' := ⟨fun wh pins s σ H Q I w => h.run wh pins s σ H Q I (k σ H Q w)⟩
theorem _root_.L2.PA.imp {e : List Expr} {t t' : TA} (h : PA X e t) (k : ∀ σ H Q, t' σ H Q → t σ H Q) : PA X e t' := ⟨fun pos pins s σ H Q I w => h.run pos pins s σ H Q I (k σ H Q w)⟩
theorem _root_.L2.PS.imp {e : Stmt} {t t' : TS} (h : PS X e t) (k : ∀ D σ H, t' D σ H → t D σ H) : PS X e t' := ⟨fun pins s σ H D I w => h.run pins s σ H D I (k D σ H w)⟩
theorem _root_.L2.PSs.imp {e : List Stmt} {t t' : TS} (h : PSs X e t) (k : ∀ D σ H, t' D σ H → t D σ H) : PSs X e t' := ⟨fun pins s σ H D I w => h.run pins s σ H D I (k D σ H w)⟩
/-- the judgements -/
abbrev DE (X : Cx) (e : Expr) (m : DM) : Prop := PE X e (rdE X.K m)
abbrev LE (X : Cx) (e : Expr) (m : DM) : Prop := PE X e (rdL X.K m)
abbrev FE (X : Cx) (e : Expr) (m : AM) : Prop := PE X e (rdF X.K m)
abbrev DT (X : Cx) (e : Expr) (m : TM) : Prop := PT X e (rdT X.K m)
abbrev DW (X : Cx) (e : Expr) (m : TM) : Prop := PW X e (rdT X.K m)
abbrev DA (X : Cx) (es : List Expr) (m : AM) : Prop := PA X es (rdA X.K m)
abbrev LA (X : Cx) (es : List Expr) (m : AM) : Prop := PA X es (rdAL X.K m)

/-! ### from one to another -/
theorem le_of {e : Expr} {m : DM} (h : DE X e m) : LE X e m := h.imp fun σ H Q ⟨F, B, W, env, n, d, n', rl, e, k⟩ => ⟨F, B, W, env, n, d, n', rl, e, fun v F' H' s r p => k v F' H' s r (.of p)⟩
theorem Rl.freeze {K : PySem.W.Frag} {F B H : Hp} {W : Option Wl} {σ : L2.St} {env : Env} {n : Nat} {p : Addr} {u : HO} (r : Rl K F B W σ H env n) (h : H p = some u) (f : F p = none) (b : B p = none)
    (w : Nch W p) (o : ∀ (i : Nat) (e : En), env[i]? = some (some e) → e.mut = true → σ[i]? ≠ some (some (.ref p))) : Rl K (upd F p u) B W σ H env n := by
  have s : Same F (upd F p u) := same_new f
  refine ⟨⟨same_upd r.zn.ff h, r.zn.bb, fun a x e => ?_⟩, ?_, fun i e he => ?_, r.ap, r.le⟩
  · have : a ≠ p := fun z => by rw [z, b] at e; cases e
    rw [upd_ne this]
    exact r.zn.dj a x e
  · have q := r.wo
    cases W with
    | none => trivial
    | some x =>
      obtain ⟨h1, h2, h3⟩ := q
      refine ⟨h1, x.mono s h2, fun y c => ⟨?_, (h3 y c).2⟩⟩
      rw [upd_ne (show y ≠ p from fun z => w x rfl (z ▸ c))]
      exact (h3 y c).1
  · obtain ⟨v, h1, h2⟩ := r.sl i e he
    refine ⟨v, h1, ?_⟩
    cases e with
    | val d => exact Rp.mono s h2
    | own ds =>
      obtain ⟨a, xs, rfl, q1, q2, q3, q4⟩ := h2
      have : a ≠ p := fun z => o i _ he rfl (by rw [h1, z])
      exact ⟨a, xs, rfl, q1, q2.mono s, by rw [upd_ne this]; exact q3, q4⟩
    | dct kvs =>
      obtain ⟨a, rfl, q3, q4, q⟩ := h2
      have : a ≠ p := fun z => o i _ he rfl (by rw [h1, z])
      refine ⟨a, rfl, by rw [upd_ne this]; exact q3, q4, ?_⟩
      rcases q with ⟨xs, q, q5, q6⟩ | ⟨xs, ks, ek, q, q5, q6⟩
      · exact .inl ⟨xs, q, q5, q6.mono s⟩
      · exact .inr ⟨xs, ks, ek, q, q5, q6.mono s⟩
    | wdr ws => exact h2
    | scr ns =>
      obtain ⟨a, e, h⟩ := h2
      exact ⟨a, e, s.seq h⟩
    | tabv d => exact ⟨Rp.mono s h2.1, h2.2.mono s⟩
theorem WOk.ne {F B H : Hp} {W : Option Wl} {n : Nat} {p : Addr} (w : WOk F B H n W) (h : H p = none) : Nch W p := fun x e z => by
  subst e
  obtain ⟨h1, _⟩ := w
  obtain ⟨o, q⟩ := Wl.there h1 z
  rw [h] at q
  cases q
theorem Rl.mut_ne {K : PySem.W.Frag} {F B H : Hp} {W : Option Wl} {σ : L2.St} {env : Env} {n : Nat} {p : Addr} (r : Rl K F B W σ H env n) (h : H p = none) : ∀ (i : Nat) (e : En), env[i]? = some (some e) → e.mut = true → σ[i]? ≠ some (some (.ref p)) := fun i e he hm z => by
  obtain ⟨v, h1, h2⟩ := r.sl i e he
  rw [z] at h1
  cases h1
  cases e with
  | val d => cases hm
  | scr ns => cases hm
  | tabv d => cases hm
  | own ds =>
    obtain ⟨a, xs, e, q, _⟩ := h2
    cases e
    rw [h] at q
    cases q
  | dct kvs =>
    obtain ⟨a, e, _, _, q⟩ := h2
    cases e
    rcases q with ⟨xs, q, _⟩ | ⟨xs, ks, ek, q, _⟩ <;> (rw [h] at q; cases q)
  | wdr ws =>
    obtain ⟨w, e, _, e2, _⟩ := h2
    cases e2
    subst e
    obtain ⟨q1, q2, _⟩ := r.wo
    rcases w.own q2 with q | ⟨o, q⟩
    · obtain ⟨o, q⟩ := Wl.there q1 q
      rw [h] at q
      cases q
    · have := r.zn.ff _ _ q
      rw [h] at this
      cases this
/-- the freshly made list is frozen -/
def dLst (m : AM) : DM := fun env => bnd (m env) fun ds => ret (.list ds)
theorem de_of_fe {e : Expr} {m : AM} (h : FE X e m) : DE X e (dLst m) := h.imp fun σ H Q ⟨F, B, W, env, n, d, n', rl, e, k⟩ => by
  obtain ⟨ds, n1, e1, e2⟩ := bnd_some e
  obtain ⟨rfl, rfl⟩ := ret_some e2
  refine ⟨F, B, W, env, n, ds, n', rl, e1, fun p xs F' H' s r hp h' f a => ?_⟩
  have bp : B p = none := same_none rl.zn.bb hp
  have r' : Rl X.K (upd F' p (.lst xs)) B W σ H' env n' := r.freeze h' f bp (rl.wo.ne hp) (rl.mut_ne hp)
  exact k _ _ _ (s.trans ⟨same_new f, fun _ _ e _ => e⟩) r' (.lst upd_same (a.mono (same_new f)))

/-! ### names, constants -/
def getV (env : Env) (i : Nat) : Option PyData := match env[i]? with
  | some (some (.val d)) => some d
  | _ => none
def getL (env : Env) (i : Nat) : Option PyData := match env[i]? with
  | some (some (.val d)) => some d
  | some (some (.own ds)) => some (.list ds)
  | _ => none
def dVar (i : Nat) : DM := fun env => lift (getV env i)
def dVarL (i : Nat) : DM := fun env => lift (getL env i)
def dC (d : PyData) : DM := fun _ => ret d
theorem getV_some {env : Env} {i : Nat} {d : PyData} (h : getV env i = some d) : env[i]? = some (some (.val d)) := by
  unfold getV at h
  split at h
  · cases h; assumption
  · cases h
theorem getL_some {env : Env} {i : Nat} {d : PyData} (h : getL env i = some d) : env[i]? = some (some (.val d)) ∨ ∃ ds, d = .list ds ∧ env[i]? = some (some (.own ds)) := by
  unfold getL at h
  split at h
  · cases h; exact .inl (by assumption)
  · cases h; exact .inr ⟨_, rfl, by assumption⟩
  · cases h
theorem de_var {e : Expr} {i : Nat} (h : PE X e (tVar i)) : DE X e (dVar i) := h.imp fun σ H Q ⟨F, B, W, env, n, d, n', rl, e, k⟩ => by
  obtain ⟨e1, rfl⟩ := lift_some e
  obtain ⟨v, h1, h2⟩ := rl.sl i _ (getV_some e1)
  exact ⟨v, h1, k v F H .refl rl h2⟩
theorem le_var {e : Expr} {i : Nat} (h : PE X e (tVar i)) : LE X e (dVarL i) := h.imp fun σ H Q ⟨F, B, W, env, n, d, n', rl, e, k⟩ => by
  obtain ⟨e1, rfl⟩ := lift_some e
  rcases getL_some e1 with e2 | ⟨ds, rfl, e2⟩
  · obtain ⟨v, h1, h2⟩ := rl.sl i _ e2
    exact ⟨v, h1, k v F H .refl rl (.of h2)⟩
  · obtain ⟨v, h1, a, xs, rfl, h2, h3, _, _, h4⟩ := rl.sl i _ e2
    exact ⟨_, h1, k _ F H .refl rl ⟨.inr ⟨a, xs, ds, rfl, rfl, h2, h3⟩, fun w b e z c => absurd (V.ref.inj z ▸ c) (h4 w e)⟩⟩
/-- a constant's value and datum -/
theorem de_c {e : Expr} {v : V} {d : PyData} (h : PE X e (tC v)) (r : ∀ F, Rp X.K F v d) : DE X e (dC d) := h.imp fun σ H Q ⟨F, B, W, env, n, d, n', rl, e, k⟩ => by
  obtain ⟨rfl, rfl⟩ := ret_some e
  exact k v F H .refl rl (r F)
theorem de_int {i : Int} {j pos} : DE X (.Constant (.int i) j pos) (dC (.int i)) := de_c pe_int fun _ => .int i
theorem de_bl {b : Bool} {j pos} : DE X (.Constant (.bool b) j pos) (dC (.bool b)) := de_c pe_bl fun _ => .bl b
theorem de_non {j pos} : DE X (.Constant .none j pos) (dC .none) := de_c pe_non fun _ => .non
theorem de_str {x : Str} {j pos} : DE X (.Constant (.str x) j pos) (dC (.str x)) := de_c pe_str fun _ => .str x

/-! ### operators by values -/
/-- r, by data: g -/
def R2D (K : PySem.W.Frag) (r : R2) (g : PyData → PyData → Option PyData) : Prop := ∀ (F H : Hp) (x y : V) (d1 d2 d : PyData) (Q : VK), Same F H → Lp K F H x d1 → Lp K F H y d2 → g d1 d2 = some d →
  (∀ v F' H', Gr F H F' H' → Rp K F' v d → Q v H') → r x y H Q
/-- .. a new list comes -/
def R2F (K : PySem.W.Frag) (r : R2) (g : PyData → PyData → Option (List PyData)) : Prop := ∀ (F H : Hp) (x y : V) (d1 d2 : PyData) (ds : List PyData) (Q : VK), Same F H → Lp K F H x d1 → Lp K F H y d2 → g d1 d2 = some ds →
  (∀ p xs, H p = none → RpAll K F xs ds → Q (.ref p) (upd H p (.lst xs))) → r x y H Q
def dOp (g : PyData → PyData → Option PyData) (a b : DM) : DM := fun env => bnd (a env) fun x => bnd (b env) fun y => lift (g x y)
def dOpF (g : PyData → PyData → Option (List PyData)) (a b : DM) : AM := fun env => bnd (a env) fun x => bnd (b env) fun y => lift (g x y)
theorem rd_op {K : PySem.W.Frag} {r : R2} {g : PyData → PyData → Option PyData} (hr : R2D K r g) {a b : DM} {σ : L2.St} {H : Hp} {Q : VK} (h : rdE K (dOp g a b) σ H Q) : tOp r (rdL K a) (rdL K b) σ H Q := by
  obtain ⟨F, B, W, env, n, d, n', rl, e, k⟩ := h
  obtain ⟨d1, n1, e1, e⟩ := bnd_some e
  obtain ⟨d2, n2, e2, e⟩ := bnd_some e
  obtain ⟨e3, rfl⟩ := lift_some e
  refine ⟨F, B, W, env, n, d1, n1, rl, e1, fun v F1 H1 s1 rl1 p1 => ⟨F1, B, W, env, n1, d2, n', rl1, e2, fun w F2 H2 s2 rl2 p2 => ?_⟩⟩
  exact hr F2 H2 v w d1 d2 d Q rl2.zn.ff (p1.go s2).lp p2.lp e3 fun z F3 H3 g p3 => k z F3 H3 ((s1.trans s2).trans (.of g)) (rl2.gr g) p3
theorem Go.keepNone {W : Option Wl} {F H F' H' : Hp} {K : PySem.W.Frag} {B : Hp} {σ : L2.St} {env : Env} {n n' : Nat} {p : Addr} (g : Go W F H F' H') (r : Rl K F B W σ H env n) (r' : Rl K F' B W σ H' env n') (h : H' p = none) : H p = none := by
  cases e : H p with
  | none => rfl
  | some o =>
    exfalso
    by_cases q : Nch W p
    · rw [g.h p o e q] at h
      cases h
    · cases W with
      | none => exact q fun w z => nomatch z
      | some w =>
        have : w.ch p := Classical.byContradiction fun z => q fun w' e' => by
          cases e'
          exact z
        obtain ⟨h1, _⟩ := r'.wo
        obtain ⟨o, q⟩ := Wl.there h1 this
        rw [h] at q
        cases q
theorem rd_opF {K : PySem.W.Frag} {r : R2} {g : PyData → PyData → Option (List PyData)} (hr : R2F K r g) {a b : DM} {σ : L2.St} {H : Hp} {Q : VK} (h : rdF K (dOpF g a b) σ H Q) : tOp r (rdL K a) (rdL K b) σ H Q := by
  obtain ⟨F, B, W, env, n, d, n', rl, e, k⟩ := h
  obtain ⟨d1, n1, e1, e⟩ := bnd_some e
  obtain ⟨d2, n2, e2, e⟩ := bnd_some e
  obtain ⟨e3, rfl⟩ := lift_some e
  refine ⟨F, B, W, env, n, d1, n1, rl, e1, fun v F1 H1 s1 rl1 p1 => ⟨F1, B, W, env, n1, d2, n', rl1, e2, fun w F2 H2 s2 rl2 p2 => ?_⟩⟩
  refine hr F2 H2 v w d1 d2 d Q rl2.zn.ff (p1.go s2).lp p2.lp e3 fun p xs hp a => ?_
  have gr : Gr F2 H2 F2 (upd H2 p (.lst xs)) := .mine rl2.zn.ff hp
  exact k p xs F2 _ ((s1.trans s2).trans (.of gr)) (rl2.gr gr) (s1.keepNone rl rl1 (s2.keepNone rl1 rl2 hp)) upd_same (same_none rl2.zn.ff hp) a
theorem R2D.or {K : PySem.W.Frag} {r r' : R2} {g g' : PyData → PyData → Option PyData} (h : R2D K r g) (h' : R2D K r' g') : R2D K (fun x y H Q => r x y H Q ∨ r' x y H Q) (fun x y => match g x y with
    | some d => some d
    | none => g' x y) := fun F H x y d1 d2 d Q s p1 p2 e k => by
  dsimp only at e
  split at e
  · cases e
    exact .inl (h F H x y d1 d2 _ Q s p1 p2 (by assumption) k)
  · exact .inr (h' F H x y d1 d2 _ Q s p1 p2 e k)
section
variable {X : Cx} {a b : Expr} {ma mb : DM} {pos : Pos}
theorem de_op {op : Operator} {r : R2} {g : PyData → PyData → Option PyData} (ho : OpR X (binaryOp op) r) (hr : R2D X.K r g) (ha : LE X a ma) (hb : LE X b mb) : DE X (.BinOp a op b pos) (dOp g ma mb) := (pe_op ho ha hb).imp fun _ _ _ h => rd_op hr h
theorem fe_op {op : Operator} {r : R2} {g : PyData → PyData → Option (List PyData)} (ho : OpR X (binaryOp op) r) (hr : R2F X.K r g) (ha : LE X a ma) (hb : LE X b mb) : FE X (.BinOp a op b pos) (dOpF g ma mb) := (pe_op ho ha hb).imp fun _ _ _ h => rd_opF hr h
theorem de_cmp {op : CmpOp} {r : R2} {g : PyData → PyData → Option PyData} (ho : OpR X (compareOp op) r) (hr : R2D X.K r g) (ha : LE X a ma) (hb : LE X b mb) (hm : behindInMarks op b = false) : DE X (.Compare a [op] [b] pos) (dOp g ma mb) := (pe_cmpR ho ha hb hm).imp fun _ _ _ h => rd_op hr h
/-- a truth value -/
def tOf (m : DM) : TM := fun env => bnd (m env) fun d => lift (match d with
  | .bool b => some b
  | _ => none)
theorem rd_test {K : PySem.W.Frag} {m : DM} {σ : L2.St} {H : Hp} {Q : Bool → Hp → Prop} (h : rdT K (tOf m) σ H Q) : tB (rdE K m) σ H Q := by
  obtain ⟨F, B, W, env, n, d, n', rl, e, k⟩ := h
  obtain ⟨d1, n1, e1, e⟩ := bnd_some e
  obtain ⟨e3, rfl⟩ := lift_some e
  refine ⟨F, B, W, env, n, d1, n', rl, e1, fun v F1 H1 s1 rl1 p1 => ?_⟩
  cases d1 with
  | bool c =>
    cases e3
    exact ⟨_, p1.bl_inv, k F1 H1 s1 rl1⟩
  | _ => cases e3
theorem dt_val {e : Expr} {m : DM} (h : DE X e m) (he : ∀ whole, isTrue e X.env whole = (do let v ← whole; standAt e.pos; holding [v] (truthy v)) := by intro _; rfl) : DT X e (tOf m) := (pt_val h he).imp fun _ _ _ h => rd_test h
theorem dt_cmp {op : CmpOp} {r : R2} {g : PyData → PyData → Option PyData} (ho : OpR X (compareOp op) r) (hr : R2D X.K r g) (ha : LE X a ma) (hb : LE X b mb) (hm : behindInMarks op b = false) : DT X (.Compare a [op] [b] pos) (tOf (dOp g ma mb)) :=
  (pt_cmpR ho ha hb hm).imp fun σ H Q h => by
    obtain ⟨F, B, W, env, n, d, n', rl, e, k⟩ := h
    obtain ⟨d1, n1, e1, e⟩ := bnd_some e
    obtain ⟨e3, rfl⟩ := lift_some e
    refine rd_op hr ⟨F, B, W, env, n, d1, n', rl, e1, fun v F1 H1 s1 rl1 p1 => ?_⟩
    cases d1 with
    | bool c =>
      cases e3
      exact ⟨_, p1.bl_inv, k F1 H1 s1 rl1⟩
    | _ => cases e3

/-! ### and, or, not, if else -/
variable {ta tb : TM} {rest : List Expr}
def tAnd (t u : TM) : TM := fun env => bnd (t env) fun b => if b = true then u env else ret false
def tOr (t u : TM) : TM := fun env => bnd (t env) fun b => if b = true then ret true else u env
def tNot (t : TM) : TM := fun env => bnd (t env) fun b => ret (!b)
theorem dw_and1 (h : DT X a ta) : DW X (.BoolOp .And [a] pos) ta := pw_and1 h
theorem dw_or1 (h : DT X a ta) : DW X (.BoolOp .Or [a] pos) ta := pw_or1 h
theorem dw_and (h : DT X a ta) (h2 : DW X (.BoolOp .And (b :: rest) pos) tb) : DW X (.BoolOp .And (a :: b :: rest) pos) (tAnd ta tb) := (pw_and h h2).imp fun σ H Q h => by
  obtain ⟨F, B, W, env, n, d, n', rl, e, k⟩ := h
  obtain ⟨b, n1, e1, e⟩ := bnd_some e
  refine ⟨F, B, W, env, n, b, n1, rl, e1, fun F1 H1 s1 rl1 => ?_⟩
  cases b with
  | true =>
    simp only [if_true] at e ⊢
    exact ⟨F1, B, W, env, n1, d, n', rl1, e, fun F2 H2 s2 rl2 => k F2 H2 (s1.trans s2) rl2⟩
  | false =>
    simp only [Bool.false_eq_true, if_false] at e ⊢
    obtain ⟨rfl, rfl⟩ := ret_some e
    exact k F1 H1 s1 rl1
theorem dw_or (h : DT X a ta) (h2 : DW X (.BoolOp .Or (b :: rest) pos) tb) : DW X (.BoolOp .Or (a :: b :: rest) pos) (tOr ta tb) := (pw_or h h2).imp fun σ H Q h => by
  obtain ⟨F, B, W, env, n, d, n', rl, e, k⟩ := h
  obtain ⟨b, n1, e1, e⟩ := bnd_some e
  refine ⟨F, B, W, env, n, b, n1, rl, e1, fun F1 H1 s1 rl1 => ?_⟩
  cases b with
  | false =>
    simp only [Bool.false_eq_true, if_false] at e ⊢
    exact ⟨F1, B, W, env, n1, d, n', rl1, e, fun F2 H2 s2 rl2 => k F2 H2 (s1.trans s2) rl2⟩
  | true =>
    simp only [if_true] at e ⊢
    obtain ⟨rfl, rfl⟩ := ret_some e
    exact k F1 H1 s1 rl1
theorem dt_bool {e : Expr} (h : DW X e ta) : DT X e ta := h.pt
theorem dt_not (h : DT X a ta) : DT X (.UnaryOp .Not a pos) (tNot ta) := (pt_not h).imp fun σ H Q h => by
  obtain ⟨F, B, W, env, n, d, n', rl, e, k⟩ := h
  obtain ⟨b, n1, e1, e⟩ := bnd_some e
  obtain ⟨rfl, rfl⟩ := ret_some e
  exact ⟨F, B, W, env, n, b, n', rl, e1, fun F1 H1 s1 rl1 => k F1 H1 s1 rl1⟩
/-- as values -/
def dAnd (t : DM) (u : DM) : DM := fun env => bnd (tOf t env) fun b => if b = true then u env else ret (.bool false)
def dOr (t : DM) (u : DM) : DM := fun env => bnd (tOf t env) fun b => if b = true then ret (.bool true) else u env
def dNot (t : DM) : DM := fun env => bnd (tOf t env) fun b => ret (.bool (!b))
def dIf (t : TM) (x y : DM) : DM := fun env => bnd (t env) fun b => if b = true then x env else y env
theorem de_one {op} (h : DE X a ma) : DE X (.BoolOp op [a] pos) ma := pe_one h
theorem de_and (h : DE X a ma) (h2 : DE X (.BoolOp .And (b :: rest) pos) mb) : DE X (.BoolOp .And (a :: b :: rest) pos) (dAnd ma mb) := (pe_and h h2).imp fun σ H Q h => by
  obtain ⟨F, B, W, env, n, d, n', rl, e, k⟩ := h
  obtain ⟨b, n1, e1, e⟩ := bnd_some e
  refine rd_test (Q := fun c H1 => if c = true then rdE X.K mb σ H1 Q else Q (.bl false) H1) ⟨F, B, W, env, n, b, n1, rl, e1, fun F1 H1 s1 rl1 => ?_⟩
  cases b with
  | true =>
    simp only [if_true] at e ⊢
    exact ⟨F1, B, W, env, n1, d, n', rl1, e, fun v F2 H2 s2 rl2 p => k v F2 H2 (s1.trans s2) rl2 p⟩
  | false =>
    simp only [Bool.false_eq_true, if_false] at e ⊢
    obtain ⟨rfl, rfl⟩ := ret_some e
    exact k _ F1 H1 s1 rl1 (.bl _)
theorem de_or (h : DE X a ma) (h2 : DE X (.BoolOp .Or (b :: rest) pos) mb) : DE X (.BoolOp .Or (a :: b :: rest) pos) (dOr ma mb) := (pe_or h h2).imp fun σ H Q h => by
  obtain ⟨F, B, W, env, n, d, n', rl, e, k⟩ := h
  obtain ⟨b, n1, e1, e⟩ := bnd_some e
  refine rd_test (Q := fun c H1 => if c = true then Q (.bl true) H1 else rdE X.K mb σ H1 Q) ⟨F, B, W, env, n, b, n1, rl, e1, fun F1 H1 s1 rl1 => ?_⟩
  cases b with
  | false =>
    simp only [Bool.false_eq_true, if_false] at e ⊢
    exact ⟨F1, B, W, env, n1, d, n', rl1, e, fun v F2 H2 s2 rl2 p => k v F2 H2 (s1.trans s2) rl2 p⟩
  | true =>
    simp only [if_true] at e ⊢
    obtain ⟨rfl, rfl⟩ := ret_some e
    exact k _ F1 H1 s1 rl1 (.bl _)
theorem de_not (h : DE X a ma) : DE X (.UnaryOp .Not a pos) (dNot ma) := (pe_not h).imp fun σ H Q h => by
  obtain ⟨F, B, W, env, n, d, n', rl, e, k⟩ := h
  obtain ⟨b, n1, e1, e⟩ := bnd_some e
  obtain ⟨rfl, rfl⟩ := ret_some e
  exact rd_test (Q := fun c H1 => Q (.bl (!c)) H1) ⟨F, B, W, env, n, b, n', rl, e1, fun F1 H1 s1 rl1 => k _ F1 H1 s1 rl1 (.bl _)⟩
theorem de_if {c : Expr} (hc : DT X c ta) (ha : DE X a ma) (hb : DE X b mb) : DE X (.IfExp c a b pos) (dIf ta ma mb) := (pe_ifExp hc ha hb).imp fun σ H Q h => by
  obtain ⟨F, B, W, env, n, d, n', rl, e, k⟩ := h
  obtain ⟨b, n1, e1, e⟩ := bnd_some e
  refine ⟨F, B, W, env, n, b, n1, rl, e1, fun F1 H1 s1 rl1 => ?_⟩
  cases b with
  | true =>
    simp only [if_true] at e ⊢
    exact ⟨F1, B, W, env, n1, d, n', rl1, e, fun v F2 H2 s2 rl2 p => k v F2 H2 (s1.trans s2) rl2 p⟩
  | false =>
    simp only [Bool.false_eq_true, if_false] at e ⊢
    exact ⟨F1, B, W, env, n1, d, n', rl1, e, fun v F2 H2 s2 rl2 p => k v F2 H2 (s1.trans s2) rl2 p⟩

/-! ### argument lists, displays -/
variable {e : Expr} {es : List Expr} {me : DM} {ms : AM}
def aNil : AM := fun _ => ret []
def aCons (m : DM) (r : AM) : AM := fun env => bnd (m env) fun d => bnd (r env) fun ds => ret (d :: ds)
theorem da_nil : DA X [] aNil := pa_nil.imp fun σ H Q ⟨F, B, W, env, n, d, n', rl, e, k⟩ => by
  obtain ⟨rfl, rfl⟩ := ret_some e
  exact k [] F H .refl rl .nil
theorem da_cons (h : DE X e me) (h2 : DA X es ms) (hs : starEach (e :: es) X.env = (false, eval e X.env) :: starEach es X.env := by rfl) : DA X (e :: es) (aCons me ms) := (pa_cons h h2 hs).imp fun σ H Q ⟨F, B, W, env, n, d, n', rl, e, k⟩ => by
  obtain ⟨d1, n1, e1, e⟩ := bnd_some e
  obtain ⟨d2, n2, e2, e⟩ := bnd_some e
  obtain ⟨rfl, rfl⟩ := ret_some e
  exact ⟨F, B, W, env, n, d1, n1, rl, e1, fun v F1 H1 s1 rl1 p1 => ⟨F1, B, W, env, n1, d2, n', rl1, e2, fun vs F2 H2 s2 rl2 p2 => k _ F2 H2 (s1.trans s2) rl2 (.cons (p1.mono s2.f) p2)⟩⟩
theorem la_nil : LA X [] aNil := pa_nil.imp fun σ H Q ⟨F, B, W, env, n, d, n', rl, e, k⟩ => by
  obtain ⟨rfl, rfl⟩ := ret_some e
  exact k [] F H .refl rl .nil
theorem la_cons (h : LE X e me) (h2 : LA X es ms) (hs : starEach (e :: es) X.env = (false, eval e X.env) :: starEach es X.env := by rfl) : LA X (e :: es) (aCons me ms) := (pa_cons h h2 hs).imp fun σ H Q ⟨F, B, W, env, n, d, n', rl, e, k⟩ => by
  obtain ⟨d1, n1, e1, e⟩ := bnd_some e
  obtain ⟨d2, n2, e2, e⟩ := bnd_some e
  obtain ⟨rfl, rfl⟩ := ret_some e
  exact ⟨F, B, W, env, n, d1, n1, rl, e1, fun v F1 H1 s1 rl1 p1 => ⟨F1, B, W, env, n1, d2, n', rl1, e2, fun vs F2 H2 s2 rl2 p2 => k _ F2 H2 (s1.trans s2) rl2 (.cons (p1.go s2) p2)⟩⟩
/-- at most so many items: what the layer's lists may hold -/
def lim : Nat := 16000000
theorem lim_le {n : Nat} (h : n ≤ lim) : n ≤ sizeLine := Nat.le_trans h (by decide)
theorem lim_lt {n : Nat} (h : n < lim) : n < sizeLine := Nat.lt_of_lt_of_le h (by decide)
def dTup (m : AM) : DM := fun env => bnd (m env) fun ds => if ds.length ≤ lim then ret (.tuple ds) else fail
def dDisp (m : AM) : AM := fun env => bnd (m env) fun ds => if ds.length ≤ lim then ret ds else fail
theorem de_tup {x1} (h : DA X es ms) : DE X (.Tuple es x1 pos) (dTup ms) := (pe_tup h).imp fun σ H Q ⟨F, B, W, env, n, d, n', rl, e, k⟩ => by
  obtain ⟨ds, n1, e1, e⟩ := bnd_some e
  split at e
  · obtain ⟨rfl, rfl⟩ := ret_some e
    refine ⟨F, B, W, env, n, ds, n', rl, e1, fun vs F1 H1 s1 rl1 p1 => ⟨by rw [p1.len]; exact lim_le (by assumption), fun p hp => ?_⟩⟩
    have gr : Gr F1 H1 (upd F1 p (.tup vs)) (upd H1 p (.tup vs)) := .new rl1.zn.ff hp
    exact k _ _ _ (s1.trans (.of gr)) (rl1.gr gr) (.tup (.of upd_same) (p1.mono gr.f))
  · cases e
theorem fe_lst (h : DA X es ms) : FE X (.List es pos) (dDisp ms) := (pe_lst h).imp fun σ H Q ⟨F, B, W, env, n, d, n', rl, e, k⟩ => by
  obtain ⟨ds, n1, e1, e⟩ := bnd_some e
  split at e
  · obtain ⟨rfl, rfl⟩ := ret_some e
    refine ⟨F, B, W, env, n, d, n', rl, e1, fun vs F1 H1 s1 rl1 p1 => ⟨by rw [p1.len]; exact lim_le (by assumption), fun p hp => ?_⟩⟩
    have gr : Gr F1 H1 F1 (upd H1 p (.lst vs)) := .mine rl1.zn.ff hp
    exact k p vs F1 _ (s1.trans (.of gr)) (rl1.gr gr) (s1.keepNone rl rl1 hp) upd_same (same_none rl1.zn.ff hp) p1
  · cases e

/-! ### calls of builtins by values -/
def RCD (K : PySem.W.Frag) (r : List V → Hp → VK → Prop) (g : List PyData → Option PyData) : Prop := ∀ (F H : Hp) (vs : List V) (ds : List PyData) (d : PyData) (Q : VK), Same F H → LpAll K F H vs ds → g ds = some d →
  (∀ v F' H', Gr F H F' H' → Rp K F' v d → Q v H') → r vs H Q
def RCF (K : PySem.W.Frag) (r : List V → Hp → VK → Prop) (g : List PyData → Option (List PyData)) : Prop := ∀ (F H : Hp) (vs : List V) (ds : List PyData) (es : List PyData) (Q : VK), Same F H → LpAll K F H vs ds → g ds = some es →
  (∀ p xs, H p = none → RpAll K F xs es → Q (.ref p) (upd H p (.lst xs))) → r vs H Q
def dCallB (g : List PyData → Option PyData) (m : AM) : DM := fun env => bnd (m env) fun ds => lift (g ds)
def dCallF (g : List PyData → Option (List PyData)) (m : AM) : AM := fun env => bnd (m env) fun ds => lift (g ds)
theorem rd_callB {K : PySem.W.Frag} {r : List V → Hp → VK → Prop} {g : List PyData → Option PyData} (hr : RCD K r g) {m : AM} {σ : L2.St} {H : Hp} {Q : VK} (h : rdE K (dCallB g m) σ H Q) : tCB r (rdAL K m) σ H Q := by
  obtain ⟨F, B, W, env, n, d, n', rl, e, k⟩ := h
  obtain ⟨ds, n1, e1, e⟩ := bnd_some e
  obtain ⟨e3, rfl⟩ := lift_some e
  exact ⟨F, B, W, env, n, ds, n', rl, e1, fun vs F1 H1 s1 rl1 p1 => hr F1 H1 vs ds d Q rl1.zn.ff p1.all e3 fun v F2 H2 gr p2 => k v F2 H2 (s1.trans (.of gr)) (rl1.gr gr) p2⟩
theorem rd_callF {K : PySem.W.Frag} {r : List V → Hp → VK → Prop} {g : List PyData → Option (List PyData)} (hr : RCF K r g) {m : AM} {σ : L2.St} {H : Hp} {Q : VK} (h : rdF K (dCallF g m) σ H Q) : tCB r (rdAL K m) σ H Q := by
  obtain ⟨F, B, W, env, n, d, n', rl, e, k⟩ := h
  obtain ⟨ds, n1, e1, e⟩ := bnd_some e
  obtain ⟨e3, rfl⟩ := lift_some e
  refine ⟨F, B, W, env, n, ds, n', rl, e1, fun vs F1 H1 s1 rl1 p1 => hr F1 H1 vs ds d Q rl1.zn.ff p1.all e3 fun p xs hp a => ?_⟩
  have gr : Gr F1 H1 F1 (upd H1 p (.lst xs)) := .mine rl1.zn.ff hp
  exact k p xs F1 _ (s1.trans (.of gr)) (rl1.gr gr) (s1.keepNone rl rl1 hp) upd_same (same_none rl1.zn.ff hp) a
variable {r : List V → Hp → VK → Prop} {g : List PyData → Option PyData} {gf : List PyData → Option (List PyData)}
theorem de_cb {m : AM} (h : PE X e (tCB r (rdAL X.K m))) (hr : RCD X.K r g) : DE X e (dCallB g m) := h.imp fun _ _ _ h => rd_callB hr h
theorem fe_cb {m : AM} (h : PE X e (tCB r (rdAL X.K m))) (hr : RCF X.K r gf) : FE X e (dCallF gf m) := h.imp fun _ _ _ h => rd_callF hr h
end
end
end DL

/-! DL, part c: targets, comprehensions, statements, loops, defs. -/
namespace DL
open PySem PySem.Spec PyProof.Rows L2

/-! ### targets -/
inductive Pt where
  | nm (i : Nat)
  | tp (ps : List Pt)
mutual
def gOf (K : PySem.W.Frag) : Pt → TG
  | .nm i => gName i
  | .tp ps => gTup K ps.length (gsOf K ps)
def gsOf (K : PySem.W.Frag) : List Pt → TGs
  | [] => gNil
  | p :: ps => gCons (gOf K p) (gsOf K ps)
end
mutual
def bindP : Pt → PyData → Env → Option Env
  | .nm i, d, env => some (env.set i (some (.val d)))
  | .tp ps, d, env => match d with
    | .tuple ds => bindPs ps ds env
    | _ => none
def bindPs : List Pt → List PyData → Env → Option Env
  | [], ds, env => match ds with
    | [] => some env
    | _ :: _ => none
  | p :: ps, ds, env => match ds with
    | [] => none
    | d :: ds => match bindP p d env with
      | none => none
      | some e => bindPs ps ds e
end
mutual
def Pt.slots : Pt → List Nat
  | .nm i => [i]
  | .tp ps => slotsL ps
def slotsL : List Pt → List Nat
  | [] => []
  | p :: ps => p.slots ++ slotsL ps
end
theorem Rl.set {K : PySem.W.Frag} {F B H : Hp} {W : Option Wl} {σ : L2.St} {env : Env} {n : Nat} {v : V} {d : PyData} (i : Nat) (r : Rl K F B W σ H env n) (h : Rp K F v d) : Rl K F B W (σ.set i (some v)) H (env.set i (some (.val d))) n := by
  refine ⟨r.zn, r.wo, fun j e he => ?_, fun j k e e' u hjk h1 h2 m1 m2 h3 h4 => ?_, by simp [r.le]⟩
  · by_cases hij : i = j
    · subst hij
      by_cases hl : i < env.length
      · rw [List.getElem?_set_self hl] at he
        cases he
        exact ⟨v, List.getElem?_set_self (by rw [← r.le]; exact hl), h⟩
      · rw [List.getElem?_eq_none (by simpa using hl)] at he
        cases he
    · rw [List.getElem?_set_ne hij] at he ⊢
      exact r.sl j e he
  · have ne : ∀ (j : Nat) (e : En), (env.set i (some (.val d)))[j]? = some (some e) → e.mut = true → i ≠ j := fun j e he hm z => by
      subst z
      by_cases hl : i < env.length
      · rw [List.getElem?_set_self hl] at he
        cases he
        cases hm
      · rw [List.getElem?_eq_none (by simpa using hl)] at he
        cases he
    have n1 := ne j e h1 m1
    have n2 := ne k e' h2 m2
    rw [List.getElem?_set_ne n1] at h1 h3
    rw [List.getElem?_set_ne n2] at h2 h4
    exact r.ap j k e e' u hjk h1 h2 m1 m2 h3 h4
/-- σ' is as σ but for the slots in l -/
def Out (l : List Nat) (σ σ' : L2.St) (env env' : Env) : Prop := σ'.length = σ.length ∧ ∀ i, i ∉ l → σ'[i]? = σ[i]? ∧ env'[i]? = env[i]?
mutual
theorem rd_pt {K : PySem.W.Frag} {F B H : Hp} {W : Option Wl} {n : Nat} : ∀ (p : Pt) (d : PyData) (env env' : Env) (σ : L2.St) (v : V) (Q : L2.St → Hp → Prop), Rl K F B W σ H env n → Rp K F v d → bindP p d env = some env' →
    (∀ σ', Rl K F B W σ' H env' n → Out p.slots σ σ' env env' → Q σ' H) → gOf K p v σ H Q
  | .nm i, d, env, env', σ, v, Q, r, h, e, k => by
    simp only [bindP, Option.some.injEq] at e
    subst e
    show Q (σ.set i (some v)) H
    refine k _ (r.set i h) ⟨by simp, fun j hj => ?_⟩
    have : i ≠ j := fun z => hj (by simp [Pt.slots, z])
    exact ⟨List.getElem?_set_ne this, List.getElem?_set_ne this⟩
  | .tp ps, d, env, env', σ, v, Q, r, h, e, k => by
    simp only [bindP] at e
    split at e
    · obtain ⟨a, xs, rfl, hs, hx⟩ := h.tup_inv
      refine ⟨a, xs, rfl, sqt_mono r.zn.ff hs, ?_, rd_pts ps _ env env' σ xs Q r hx e fun σ' r' o => k σ' r' (by simpa only [Pt.slots] using o)⟩
      rw [hx.len]
      exact bindPs_len ps _ env env' e
    · cases e
theorem rd_pts {K : PySem.W.Frag} {F B H : Hp} {W : Option Wl} {n : Nat} : ∀ (ps : List Pt) (ds : List PyData) (env env' : Env) (σ : L2.St) (vs : List V) (Q : L2.St → Hp → Prop), Rl K F B W σ H env n → RpAll K F vs ds → bindPs ps ds env = some env' →
    (∀ σ', Rl K F B W σ' H env' n → Out (slotsL ps) σ σ' env env' → Q σ' H) → gsOf K ps vs σ H Q
  | [], ds, env, env', σ, vs, Q, r, h, e, k => by
    cases h with
    | nil =>
      simp only [bindPs, Option.some.injEq] at e
      subst e
      exact ⟨rfl, k σ r ⟨rfl, fun _ _ => ⟨rfl, rfl⟩⟩⟩
    | cons _ _ => simp [bindPs] at e
  | p :: ps, ds, env, env', σ, vs, Q, r, h, e, k => by
    cases h with
    | nil => simp [bindPs] at e
    | @cons v vs d ds h1 h2 =>
      simp only [bindPs] at e
      split at e
      · cases e
      · rename_i e1 he1
        refine ⟨v, vs, rfl, rd_pt p d env e1 σ v _ r h1 he1 fun σ1 r1 o1 => rd_pts ps ds e1 env' σ1 vs Q r1 h2 e fun σ2 r2 o2 => k σ2 r2 ⟨o2.1.trans o1.1, fun i hi => ?_⟩⟩
        have q1 := o1.2 i fun z => hi (by simp [slotsL, z])
        have q2 := o2.2 i fun z => hi (by simp [slotsL, z])
        exact ⟨q2.1.trans q1.1, q2.2.trans q1.2⟩
theorem bindPs_len : ∀ (ps : List Pt) (ds : List PyData) (env env' : Env), bindPs ps ds env = some env' → ds.length = ps.length
  | [], ds, env, env', e => by
    cases ds with
    | nil => rfl
    | cons _ _ => simp [bindPs] at e
  | p :: ps, ds, env, env', e => by
    cases ds with
    | nil => simp [bindPs] at e
    | cons d ds =>
      simp only [bindPs] at e
      split at e
      · cases e
      · simp [bindPs_len ps ds _ env' e]
end
abbrev DG (X : Cx) (tg : Expr) (p : Pt) : Prop := PG X tg (gOf X.K p)
abbrev DGs (X : Cx) (tgs : List Expr) (ps : List Pt) : Prop := PGs X tgs (gsOf X.K ps)
section
variable {X : Cx}
theorem dg_name {i : Nat} {tg : Expr} (h : PG X tg (gName i)) : DG X tg (.nm i) := h
theorem dgs_nil : DGs X [] [] := pgs_nil
theorem dgs_cons {e : Expr} {es : List Expr} {p : Pt} {ps : List Pt} (h : DG X e p) (h2 : DGs X es ps) (hs : (assignEach (e :: es) X.env).map (·.2) = assign e X.env :: (assignEach es X.env).map (·.2) := by rfl) : DGs X (e :: es) (p :: ps) := pgs_cons h h2 hs
theorem dg_tup {es : List Expr} {k : Nat} {ps : List Pt} {pos : Pos} (hc : X.calm = true) (h : DGs X es ps) (hn : (assignEach es X.env).length = ps.length := by rfl) (hst : (assignEach es X.env).findIdx? (·.1) = none := by rfl) : DG X (.Tuple es k pos) (.tp ps) := pg_tup hc h hn hst
end

/-! ### what is walked -/
structure Wk (K : PySem.W.Frag) (J : It) (F : Hp) (ds : List PyData) : Prop where
  go : ∀ i H, Same F H → i < ds.length → J.go i H
  stop : ∀ H, Same F H → J.stop ds.length H
  yld : ∀ i F1 H x H', Same F F1 → Same F1 H → i < ds.length → J.yld i H x H' → ∃ d F2, ds[i]? = some d ∧ Gr F1 H F2 H' ∧ Rp K F2 x d
def rdI (K : PySem.W.Frag) (m : AM) : TI := fun σ H R => ∃ F B W env n ds n', Rl K F B W σ H env n ∧ m env n = some (ds, n') ∧ ∀ J F' H', Go W F H F' H' → Rl K F' B W σ H' env n' → Wk K J F' ds → R J H'
abbrev DI (X : Cx) (tg iter : Expr) (m : AM) : Prop := PI X tg iter (rdI X.K m)
theorem _root_.L2.PI.imp {X : Cx} {tg iter : Expr} {t t' : TI} (h : PI X tg iter t) (k : ∀ σ H R, t' σ H R → t σ H R) : PI X tg iter t' := ⟨fun pins s σ H R I w => h.run pins s σ H R I (k σ H R w)⟩
/-- the items of a list, of a tuple -/
def itemsL (m : DM) : AM := fun env => bnd (m env) fun d => lift (match d with
  | .list ds => some ds
  | _ => none)
def itemsT (m : DM) : AM := fun env => bnd (m env) fun d => lift (match d with
  | .tuple ds => some ds
  | _ => none)
def rangeD (lo hi : Int) : List PyData := (List.range (hi - lo).toNat).map fun (i : Nat) => PyData.int (lo + (i : Int))
def big : Int := 1000000000
def itemsR1 (m : DM) : AM := fun env => bnd (m env) fun d => lift (match d with
  | .int j => if -big ≤ j ∧ j ≤ big then some (rangeD 0 j) else none
  | _ => none)
def itemsR2 (a b : DM) : AM := fun env => bnd (a env) fun x => bnd (b env) fun y => lift (match x, y with
  | .int i, .int j => if -big ≤ i ∧ i ≤ big ∧ -big ≤ j ∧ j ≤ big then some (rangeD i j) else none
  | _, _ => none)
theorem rangeD_len (lo hi : Int) : (rangeD lo hi).length = (hi - lo).toNat := by simp [rangeD]
theorem rangeD_get {lo hi : Int} {i : Nat} (h : i < (rangeD lo hi).length) : (rangeD lo hi)[i]? = some (.int (lo + (i : Int))) := by
  rw [rangeD_len] at h
  simp [rangeD, h]
section
variable {X : Cx} {tg e : Expr} {K : PySem.W.Frag}
theorem wk_list {F : Hp} {a : Addr} {xs : List V} {ds : List PyData} (h : F a = some (.lst xs)) (r : RpAll K F xs ds) : Wk K (Itl K a) F ds := by
  have len := r.len
  refine ⟨fun i H s hi => ⟨xs, _, .of (s _ _ h), List.getElem?_eq_getElem (by omega)⟩, fun H s => ⟨xs, .of (s _ _ h), by rw [len]; exact Nat.le_refl _⟩, fun i F1 H x H' s1 s hi q => ?_⟩
  obtain ⟨rfl, q⟩ := q
  obtain ⟨d, h1, h2⟩ := r.get' (q xs (.of ((s1.trans s) _ _ h)))
  exact ⟨d, F1, h1, .refl s, h2.mono s1⟩
theorem wk_tup {F : Hp} {a : Addr} {xs : List V} {ds : List PyData} (h : SqT K F a xs) (r : RpAll K F xs ds) : Wk K (Itt K a) F ds := by
  have len := r.len
  refine ⟨fun i H s hi => ⟨xs, _, sqt_mono s h, List.getElem?_eq_getElem (by omega)⟩, fun H s => ⟨xs, sqt_mono s h, by rw [len]; exact Nat.le_refl _⟩, fun i F1 H x H' s1 s hi q => ?_⟩
  obtain ⟨rfl, q⟩ := q
  obtain ⟨d, h1, h2⟩ := r.get' (q xs (sqt_mono (s1.trans s) h))
  exact ⟨d, F1, h1, .refl s, h2.mono s1⟩
theorem wk_range {F : Hp} {lo hi : Int} : Wk K (Itr lo (hi - lo).toNat) F (rangeD lo hi) := by
  refine ⟨fun i H _ h => by rw [rangeD_len] at h; exact h, fun H _ => by rw [rangeD_len]; exact Nat.le_refl _, fun i F1 H x H' s1 s h q => ?_⟩
  obtain ⟨rfl, rfl⟩ := q
  exact ⟨_, F1, rangeD_get h, .refl s, .int _⟩
theorem di_list {m : DM} (h : DE X e m) : DI X tg e (itemsL m) := (pi_list h).imp fun σ H R ⟨F, B, W, env, n, ds, n', rl, e, k⟩ => by
  obtain ⟨d, n1, e1, e⟩ := bnd_some e
  obtain ⟨e3, rfl⟩ := lift_some e
  refine ⟨F, B, W, env, n, d, n', rl, e1, fun v F1 H1 s1 rl1 p1 => ?_⟩
  cases d with
  | list es =>
    cases e3
    obtain ⟨a, xs, rfl, h, r⟩ := p1.lst_inv
    exact ⟨a, rfl, ⟨xs, .of (rl1.zn.ff _ _ h)⟩, k _ F1 H1 s1 rl1 (wk_list h r)⟩
  | _ => cases e3
theorem di_tup {m : DM} (h : DE X e m) : DI X tg e (itemsT m) := (pi_tup h).imp fun σ H R ⟨F, B, W, env, n, ds, n', rl, e, k⟩ => by
  obtain ⟨d, n1, e1, e⟩ := bnd_some e
  obtain ⟨e3, rfl⟩ := lift_some e
  refine ⟨F, B, W, env, n, d, n', rl, e1, fun v F1 H1 s1 rl1 p1 => ?_⟩
  cases d with
  | tuple es =>
    cases e3
    obtain ⟨a, xs, rfl, h, r⟩ := p1.tup_inv
    exact ⟨a, rfl, ⟨xs, sqt_mono rl1.zn.ff h⟩, k _ F1 H1 s1 rl1 (wk_tup h r)⟩
  | _ => cases e3
theorem di_range1 {m : DM} (h : PI X tg e (iRng1 (rdA X.K (aCons m aNil)))) : DI X tg e (itemsR1 m) := h.imp fun σ H R ⟨F, B, W, env, n, ds, n', rl, e, k⟩ => by
  obtain ⟨d, n1, e1, e⟩ := bnd_some e
  obtain ⟨e3, rfl⟩ := lift_some e
  refine ⟨F, B, W, env, n, [d], n', rl, ?_, fun vs F1 H1 s1 rl1 p1 => ?_⟩
  · simp [aCons, aNil, bnd, ret, e1]
  · split at e3
    · split at e3
      · cases e3
        cases p1 with
        | cons h1 h2 =>
          cases h2
          rw [h1.int_inv]
          unfold big at *
          refine ⟨_, rfl, by omega, by omega, ?_⟩
          have q := k (Itr 0 _) F1 H1 s1 rl1 (wk_range (lo := 0))
          rw [Int.sub_zero] at q
          exact q
      · cases e3
    · cases e3
theorem di_range2 {ma mb : DM} (h : PI X tg e (iRng2 (rdA X.K (aCons ma (aCons mb aNil))))) : DI X tg e (itemsR2 ma mb) := h.imp fun σ H R ⟨F, B, W, env, n, ds, n', rl, e, k⟩ => by
  obtain ⟨d, n1, e1, e⟩ := bnd_some e
  obtain ⟨d2, n2, e2, e⟩ := bnd_some e
  obtain ⟨e3, rfl⟩ := lift_some e
  refine ⟨F, B, W, env, n, [d, d2], n', rl, ?_, fun vs F1 H1 s1 rl1 p1 => ?_⟩
  · simp [aCons, aNil, bnd, ret, e1, e2]
  · split at e3
    · split at e3
      · cases e3
        cases p1 with
        | cons h1 h2 =>
          cases h2 with
          | cons h2 h3 =>
            cases h3
            rw [h1.int_inv, h2.int_inv]
            unfold big at *
            exact ⟨_, _, rfl, ⟨by omega, by omega, by omega, by omega⟩, k (Itr _ _) F1 H1 s1 rl1 wk_range⟩
      · cases e3
    · cases e3
end

/-! ### list comprehensions -/
def wipeE (env : Env) : List Nat → Env
  | [] => env
  | v :: vs => (wipeE env vs).set v none
def noMut (env : Env) (vs : List Nat) : Bool := vs.all fun i => match env[i]? with
  | some (some e) => !e.mut
  | _ => true
def lcLoop (p : Pt) (t : TM) (m : DM) (env : Env) : List PyData → OM (List PyData)
  | [] => ret []
  | d :: ds => match bindP p d env with
    | none => fail
    | some e => bnd (t e) fun b => if b = true then bnd (m e) fun x => bnd (lcLoop p t m env ds) fun xs => ret (x :: xs) else lcLoop p t m env ds
def dLc (src : AM) (p : Pt) (t : TM) (m : DM) (vs : List Nat) : AM := fun env => bnd (src env) fun ds => if ds.length ≤ lim ∧ noMut env vs = true then lcLoop p t m (wipeE env vs) ds else fail
theorem lcLoop_cons {p : Pt} {t : TM} {m : DM} {env : Env} {d : PyData} {ds es : List PyData} {n n' : Nat} (h : lcLoop p t m env (d :: ds) n = some (es, n')) :
    ∃ e, bindP p d env = some e ∧ bnd (t e) (fun b => if b = true then bnd (m e) fun x => bnd (lcLoop p t m env ds) fun xs => ret (x :: xs) else lcLoop p t m env ds) n = some (es, n') := by
  cases hb : bindP p d env with
  | none =>
    simp only [lcLoop, hb, fail] at h
    cases h
  | some e =>
    simp only [lcLoop, hb] at h
    exact ⟨e, rfl, h⟩
theorem wipeE_length (env : Env) : ∀ vs : List Nat, (wipeE env vs).length = env.length
  | [] => rfl
  | v :: vs => by simp [wipeE, wipeE_length env vs]
theorem wipeE_out {env : Env} {i : Nat} : ∀ {vs : List Nat}, i ∉ vs → (wipeE env vs)[i]? = env[i]?
  | [], _ => rfl
  | v :: vs, h => by
    have h1 : v ≠ i := fun e => h (by rw [e]; exact List.mem_cons_self)
    unfold wipeE
    rw [List.getElem?_set_ne h1]
    exact wipeE_out fun m => h (List.mem_cons_of_mem _ m)
theorem wipeE_some {env : Env} {i : Nat} {x : En} : ∀ {vs : List Nat}, (wipeE env vs)[i]? = some (some x) → env[i]? = some (some x) ∧ i ∉ vs
  | [], h => ⟨h, by simp⟩
  | v :: vs, h => by
    unfold wipeE at h
    by_cases hi : v = i
    · subst hi
      by_cases hv : v < (wipeE env vs).length
      · rw [List.getElem?_set_self hv] at h; cases h
      · rw [List.getElem?_eq_none (by simpa using hv)] at h; cases h
    · rw [List.getElem?_set_ne hi] at h
      obtain ⟨h1, h2⟩ := wipeE_some h
      exact ⟨h1, by simp only [List.mem_cons, not_or]; exact ⟨fun e => hi e.symm, h2⟩⟩
theorem wipe_in {σ : L2.St} {i : Nat} : ∀ {vs : List Nat}, i ∈ vs → i < σ.length → (wipe σ vs)[i]? = some none
  | v :: vs, h, hl => by
    unfold wipe
    by_cases e : v = i
    · subst e
      exact List.getElem?_set_self (by rw [wipe_length]; exact hl)
    · rw [List.getElem?_set_ne e]
      refine wipe_in ?_ hl
      rcases List.mem_cons.mp h with z | z
      · exact absurd z.symm e
      · exact z
theorem wipe_eq {σ σ' : L2.St} {vs : List Nat} (hl : σ'.length = σ.length) (h : ∀ i, i ∉ vs → σ'[i]? = σ[i]?) : wipe σ' vs = wipe σ vs := by
  apply List.ext_getElem?
  intro i
  by_cases hi : i ∈ vs
  · by_cases hb : i < σ.length
    · rw [wipe_in hi hb, wipe_in hi (by rw [hl]; exact hb)]
    · rw [List.getElem?_eq_none (by rw [wipe_length]; omega), List.getElem?_eq_none (by rw [wipe_length]; omega)]
  · rw [wipe_out hi, wipe_out hi, h i hi]
theorem Rl.wipe {K : PySem.W.Frag} {F B H : Hp} {W : Option Wl} {σ : L2.St} {env : Env} {n : Nat} (r : Rl K F B W σ H env n) (vs : List Nat) : Rl K F B W (L2.wipe σ vs) H (wipeE env vs) n := by
  refine ⟨r.zn, r.wo, fun i e he => ?_, fun i j e e' v hij h1 h2 m1 m2 h3 h4 => ?_, by rw [wipeE_length, wipe_length, r.le]⟩
  · obtain ⟨h1, h2⟩ := wipeE_some he
    rw [wipe_out h2]
    exact r.sl i e h1
  · exact r.ap i j e e' v hij (wipeE_some h1).1 (wipeE_some h2).1 m1 m2 (wipe_some h3).1 (wipe_some h4).1
/-- others' part widened -/
theorem Rl.others {K : PySem.W.Frag} {F B H : Hp} {W : Option Wl} {σ : L2.St} {env : Env} {n : Nat} {p : Addr} {u : HO} (r : Rl K F B W σ H env n) (h : H p = some u) (f : F p = none)
    (w : Nch W p) (o : ∀ (i : Nat) (e : En), env[i]? = some (some e) → e.mut = true → σ[i]? ≠ some (some (.ref p))) : Rl K F (upd B p u) W σ H env n := by
  refine ⟨⟨r.zn.ff, same_upd r.zn.bb h, fun a x e => ?_⟩, ?_, fun i e he => ?_, r.ap, r.le⟩
  · by_cases z : a = p
    · rw [z]; exact f
    · rw [upd_ne z] at e
      exact r.zn.dj a x e
  · have q := r.wo
    cases W with
    | none => trivial
    | some x =>
      obtain ⟨h1, h2, h3⟩ := q
      refine ⟨h1, h2, fun y c => ⟨(h3 y c).1, ?_⟩⟩
      rw [upd_ne (show y ≠ p from fun z => w x rfl (z ▸ c))]
      exact (h3 y c).2
  · obtain ⟨v, h1, h2⟩ := r.sl i e he
    refine ⟨v, h1, ?_⟩
    cases e with
    | val d => exact h2
    | own ds =>
      obtain ⟨a, xs, rfl, q1, q2, q3, q4⟩ := h2
      have : a ≠ p := fun z => o i _ he rfl (by rw [h1, z])
      exact ⟨a, xs, rfl, q1, q2, q3, by rw [upd_ne this]; exact q4⟩
    | dct kvs =>
      obtain ⟨a, rfl, q3, q4, q⟩ := h2
      have : a ≠ p := fun z => o i _ he rfl (by rw [h1, z])
      exact ⟨a, rfl, q3, ⟨by rw [upd_ne this]; exact q4.1, q4.2⟩, q⟩
    | wdr ws => exact h2
    | scr ns => exact h2
    | tabv d => exact h2
/-- a change of what is neither frozen nor others' nor the def's -/
theorem Rl.upd_out {K : PySem.W.Frag} {F B H : Hp} {W : Option Wl} {σ : L2.St} {env : Env} {n : Nat} {p : Addr} {u : HO} (r : Rl K F B W σ H env n) (f : F p = none) (b : B p = none) (hc : ∀ o, H p = some o → ¬ Wl.IsCode o)
    (w : Nch W p) (o : ∀ (i : Nat) (e : En), env[i]? = some (some e) → e.mut = true → σ[i]? ≠ some (some (.ref p))) : Rl K F B W σ (upd H p u) env n := by
  refine ⟨⟨same_mut r.zn.ff f, same_mut r.zn.bb b, r.zn.dj⟩, ?_, fun i e he => ?_, r.ap, r.le⟩
  · have q := r.wo
    cases W with
    | none => trivial
    | some x =>
      obtain ⟨h1, h2, h3⟩ := q
      exact ⟨Wl.upd_now h1 (w x rfl) hc, h2, h3⟩
  · obtain ⟨v, h1, h2⟩ := r.sl i e he
    refine ⟨v, h1, ?_⟩
    cases e with
    | val d => exact h2
    | own ds =>
      obtain ⟨a, xs, rfl, q1, q2, q3, q4⟩ := h2
      have : a ≠ p := fun z => o i _ he rfl (by rw [h1, z])
      exact ⟨a, xs, rfl, by rw [upd_ne this]; exact q1, q2, q3, q4⟩
    | dct kvs =>
      obtain ⟨a, rfl, q3, q4, q⟩ := h2
      have : a ≠ p := fun z => o i _ he rfl (by rw [h1, z])
      refine ⟨a, rfl, q3, q4, ?_⟩
      rw [upd_ne this]
      exact q
    | wdr ws => exact h2
    | scr ns => exact h2
    | tabv d => exact h2
theorem Rl.restore {K : PySem.W.Frag} {F B H F' B' H' : Hp} {W : Option Wl} {σ σ2 : L2.St} {env env2 : Env} {n n2 : Nat} (r : Rl K F B W σ H env n) (f : Same F F') (r2 : Rl K F' B' W σ2 H' env2 n2) (sb : Same B B')
    (hm : ∀ (i : Nat) (e : En), env[i]? = some (some e) → e.mut = true → env2[i]? = some (some e) ∧ σ2[i]? = σ[i]?) : Rl K F' B W σ H' env n2 := by
  have bn : ∀ a, B' a = none → B a = none := fun a h => same_none sb h
  refine ⟨⟨r2.zn.ff, sb.trans r2.zn.bb, fun a x e => r2.zn.dj a x (sb _ _ e)⟩, ?_, fun i e he => ?_, r.ap, r.le⟩
  · have q := r2.wo
    cases W with
    | none => trivial
    | some x =>
      obtain ⟨h1, h2, h3⟩ := q
      exact ⟨h1, h2, fun y c => ⟨(h3 y c).1, bn _ (h3 y c).2⟩⟩
  · obtain ⟨v, h1, h2⟩ := r.sl i e he
    by_cases hmt : e.mut = true
    · obtain ⟨q1, q2⟩ := hm i e he hmt
      obtain ⟨v', h3, h4⟩ := r2.sl i e q1
      rw [q2] at h3
      refine ⟨v', h3, ?_⟩
      cases e with
      | own ds =>
        obtain ⟨a, xs, e, z1, z2, z3, z4⟩ := h4
        exact ⟨a, xs, e, z1, z2, z3, ⟨bn _ z4.1, z4.2⟩⟩
      | dct kvs =>
        obtain ⟨a, e, z3, z4, z⟩ := h4
        exact ⟨a, e, z3, ⟨bn _ z4.1, z4.2⟩, z⟩
      | wdr ws => exact h4
      | val d => cases hmt
      | scr ns => cases hmt
      | tabv d => cases hmt
    · refine ⟨v, h1, ?_⟩
      cases e with
      | val d => exact Rp.mono f h2
      | scr ns =>
        obtain ⟨a, e, h⟩ := h2
        exact ⟨a, e, f.seq h⟩
      | tabv d => exact ⟨Rp.mono f h2.1, h2.2.mono f⟩
      | _ => exact absurd rfl hmt
theorem noMut_at {env : Env} {vs : List Nat} (h : noMut env vs = true) {i : Nat} {e : En} (he : env[i]? = some (some e)) (hm : e.mut = true) : i ∉ vs := fun z => by
  have q := List.all_eq_true.mp h i z
  rw [he] at q
  simp [hm] at q
/-- the own dict of the draws, or not -/
theorem Go.at {W : Option Wl} {F H F' H' : Hp} {p : Addr} {o : HO} (g : Go W F H F' H') (h : H p = some o) (w : Nch W p) : H' p = some o := g.h p o h w
theorem rd_lc {K : PySem.W.Frag} {src : AM} {p : Pt} {t : TM} {m : DM} {vs : List Nat} (hp : ∀ i ∈ p.slots, i ∈ vs) {σ : L2.St} {H : Hp} {Q : VK} (h : rdF K (dLc src p t m vs) σ H Q) : tLc (rdI K src) (gOf K p) (rdT K t) (rdE K m) vs σ H Q := by
  obtain ⟨F, B, W, env, n, es, n', rl, e, k⟩ := h
  obtain ⟨ds, n1, e1, e⟩ := bnd_some e
  split at e
  case isFalse => cases e
  rename_i hg
  obtain ⟨hlim, hnm⟩ := hg
  refine ⟨F, B, W, env, n, ds, n1, rl, e1, fun J F1 H1 g1 rl1 wk D hD => ?_⟩
  have hDH : H D = none := g1.keepNone rl rl1 hD
  have wD : Nch W D := rl1.wo.ne hD
  have oD := rl1.mut_ne hD
  refine ⟨fun i k H' => k = ds.length - i ∧ i ≤ ds.length ∧ ∃ F' n2 xs done rest, Go W F1 H1 F' H' ∧ H' D = some (.lst xs) ∧ F' D = none ∧ RpAll K F' xs done ∧ lcLoop p t m (wipeE env vs) (ds.drop i) n2 = some (rest, n') ∧ es = done ++ rest ∧ xs.length ≤ i ∧ Rl K F' B W σ H' env n2,
    ⟨ds.length, by simp, Nat.zero_le _, F1, n1, [], [], es, .of (.mine rl1.zn.ff hD), upd_same, same_none rl1.zn.ff hD, .nil, by simpa using e, rfl, Nat.zero_le _, rl1.gr (.mine rl1.zn.ff hD)⟩, ?_⟩
  rintro i k2 H' ⟨rfl, hi, F', n2, xs, done, rest, g, hHD, hFD, ra, lc, rfl, hx, rl2⟩
  by_cases hlt : i < ds.length
  · right
    have hdi : ds.drop i = ds[i] :: ds.drop (i + 1) := List.drop_eq_getElem_cons hlt
    have bD : B D = none := same_none rl1.zn.bb hD
    refine ⟨wk.go i H' (g.f.trans rl2.zn.ff) hlt, fun H2 => ∃ F2 n3 xs2 done2 rest2, Go W F1 H1 F2 H2 ∧ H2 D = some (.lst xs2) ∧ F2 D = none ∧ RpAll K F2 xs2 done2 ∧ lcLoop p t m (wipeE env vs) (ds.drop (i + 1)) n3 = some (rest2, n') ∧ done ++ rest = done2 ++ rest2 ∧ xs2.length ≤ i + 1 ∧ Rl K F2 B W σ H2 env n3, ?_, ?_⟩
    · rintro H2 ⟨F2, n3, xs2, done2, rest2, q1, q2, q3, q4, q5, q6, q7, q8⟩
      exact ⟨ds.length - (i + 1), by omega, rfl, hlt, F2, n3, xs2, done2, rest2, q1, q2, q3, q4, q5, q6, q7, q8⟩
    · intro x H3 hy
      obtain ⟨d, F3, hd, gr, rp⟩ := wk.yld i F' H' x H3 g.f rl2.zn.ff hlt hy
      have hdd : ds[i] = d := by
        rw [List.getElem?_eq_getElem hlt] at hd
        exact Option.some.inj hd
      rw [hdi, hdd] at lc
      have rl3 := rl2.gr gr
      have hD3 := gr.h _ _ hHD
      have fD3 := gr.o _ _ hHD hFD
      have rl4 := (rl3.others hD3 fD3 wD oD).wipe vs
      obtain ⟨e1, hb, lc⟩ := lcLoop_cons lc
      refine rd_pt p d _ e1 _ x _ rl4 rp hb fun σ2 rl5 out => ⟨?_, ?_⟩
      · rw [wipe_eq out.1 fun j hj => (out.2 j fun z => hj (hp j z)).1]
        exact wipe_eq (wipe_length _ _) fun j hj => wipe_out hj
      obtain ⟨b, n3, ht, lc⟩ := bnd_some lc
      have hm : ∀ (j : Nat) (e : En), env[j]? = some (some e) → e.mut = true → e1[j]? = some (some e) ∧ σ2[j]? = σ[j]? := fun j e he hm => by
        have q := noMut_at hnm he hm
        have o := out.2 j fun z => q (hp j z)
        exact ⟨by rw [o.2, wipeE_out q]; exact he, by rw [o.1, wipe_out q]⟩
      refine ⟨F3, _, W, e1, n2, b, n3, rl5, ht, fun F4 H4 g4 rl6 => ?_⟩
      have hD4 : H4 D = some (.lst xs) := rl6.zn.bb D _ upd_same
      have fD4 : F4 D = none := rl6.zn.dj D _ upd_same
      have rl7 : Rl K F4 B W σ H4 env n3 := rl3.restore g4.f rl6 (same_new bD) hm
      have g5 : Go W F1 H1 F4 H4 := (g.trans (.of gr)).trans g4
      cases b with
      | false =>
        simp only [Bool.false_eq_true, if_false] at lc ⊢
        exact ⟨F4, n3, xs, done, rest, g5, hD4, fD4, (ra.mono gr.f).mono g4.f, lc, rfl, by omega, rl7⟩
      | true =>
        simp only [if_true] at lc ⊢
        obtain ⟨v, n4, hme, lc⟩ := bnd_some lc
        obtain ⟨rest2, n5, lc, e5⟩ := bnd_some lc
        obtain ⟨rfl, rfl⟩ := ret_some e5
        refine ⟨F4, _, W, e1, n3, v, n4, rl6, hme, fun y F5 H5 g6 rl8 py => ?_⟩
        have hD5 : H5 D = some (.lst xs) := rl8.zn.bb D _ upd_same
        have fD5 : F5 D = none := rl8.zn.dj D _ upd_same
        have rl9 : Rl K F5 B W σ H5 env n4 := rl7.restore g6.f rl8 (same_new bD) hm
        have g7 := g5.trans g6
        refine ⟨xs, hD5, lim_lt (by omega), F5, n4, xs ++ [y], done ++ [v], rest2, ⟨g7.f, fun a o e z => ?_⟩, upd_same, fD5, (((ra.mono gr.f).mono g4.f).mono g6.f).append (.one py), lc, by simp, by simp; omega, rl9.upd_out fD5 bD (Wl.lst_code hD5) wD oD⟩
        rw [upd_ne (ne_of_none e hD)]
        exact g7.h a o e z
  · left
    have : i = ds.length := by omega
    subst this
    rw [List.drop_length] at lc
    obtain ⟨rfl, rfl⟩ := ret_some lc
    refine ⟨wk.stop H' (g.f.trans rl2.zn.ff), ?_⟩
    rw [List.append_nil] at k
    exact k D xs F' H' (g1.trans g) rl2 hDH hHD hFD ra
end DL

/-! DL, part d: comprehensions as judgements, statements, loops, defs and their calls. -/
namespace DL
open PySem PySem.Spec PyProof.Rows L2

section
variable {X : Cx} {e : Expr}
theorem fe_lc {src : AM} {p : Pt} {t : TM} {m : DM} {vs : List Nat} (h : PE X e (tLc (rdI X.K src) (gOf X.K p) (rdT X.K t) (rdE X.K m) vs)) (hp : ∀ i ∈ p.slots, i ∈ vs := by decide) : FE X e (dLc src p t m vs) := h.imp fun _ _ _ h => rd_lc hp h
def tTrue : TM := fun _ => ret true
theorem _root_.L2.PTs.imp {es : List Expr} {t t' : TT} (h : PTs X es t) (k : ∀ σ H Q, t' σ H Q → t σ H Q) : PTs X es t' := ⟨fun pins s σ H Q I w => h.run pins s σ H Q I (k σ H Q w)⟩
theorem dts_nil : PTs X [] (rdT X.K tTrue) := pts_nil.imp fun σ H Q ⟨F, B, W, env, n, d, n', rl, e, k⟩ => by
  obtain ⟨rfl, rfl⟩ := ret_some e
  exact k F H .refl rl
theorem dts_one {c : Expr} {t : TM} (h : DT X c t) : PTs X [c] (rdT X.K t) := pts_one h
end

/-! ### statements -/
inductive Fl where
  | nx (e : Env)
  | ct (e : Env)
  | bk (e : Env)
  | rt (d : PyData)
abbrev SM := Env → OM Fl
def endS (K : PySem.W.Frag) (F B : Hp) (W : Option Wl) (n : Nat) (D : Ends) : Fl → Prop
  | .nx e => ∀ σ F' H, Same F F' → Rl K F' B W σ H e n → D.nx σ H
  | .ct e => ∀ σ F' H, Same F F' → Rl K F' B W σ H e n → D.ct σ H
  | .bk e => ∀ σ F' H, Same F F' → Rl K F' B W σ H e n → D.bk σ H
  | .rt d => ∀ v F' H, Same F F' → Zn F' B H → WOk F' B H n W → Rp K F' v d → D.rt v H
def rdS (K : PySem.W.Frag) (m : SM) : TS := fun D σ H => ∃ F B W env n r n', Rl K F B W σ H env n ∧ m env n = some (r, n') ∧ endS K F B W n' D r
abbrev DS (X : Cx) (st : Stmt) (m : SM) : Prop := PS X st (rdS X.K m)
abbrev DSs (X : Cx) (st : List Stmt) (m : SM) : Prop := PSs X st (rdS X.K m)
theorem endS.mono {K : PySem.W.Frag} {F F' B : Hp} {W : Option Wl} {n : Nat} {D : Ends} {r : Fl} (s : Same F F') (h : endS K F B W n D r) : endS K F' B W n D r := by
  cases r with
  | rt d => exact fun v F2 H s2 z w p => h v F2 H (s.trans s2) z w p
  | _ => exact fun σ F2 H s2 r => h σ F2 H (s.trans s2) r
def sPass : SM := fun env => ret (.nx env)
def sBrk : SM := fun env => ret (.bk env)
def sCnt : SM := fun env => ret (.ct env)
def sFail : SM := fun _ => fail
def sSeq (s t : SM) : SM := fun env => bnd (s env) fun r => match r with
  | .nx e => t e
  | .ct e => ret (.ct e)
  | .bk e => ret (.bk e)
  | .rt d => ret (.rt d)
def sRet (m : DM) : SM := fun env => bnd (m env) fun d => ret (.rt d)
def sDrop (m : DM) : SM := fun env => bnd (m env) fun _ => ret (.nx env)
def sIf (t : TM) (a b : SM) : SM := fun env => bnd (t env) fun c => if c = true then a env else b env
def sAsg (p : Pt) (m : DM) : SM := fun env => bnd (m env) fun d => match bindP p d env with
  | none => fail
  | some e => ret (.nx e)
/-- a new list, one's own | a new list to read alone -/
def sAsgF (i : Nat) (m : AM) : SM := fun env => bnd (m env) fun ds => ret (.nx (env.set i (some (.own ds))))
def sPar (i j : Nat) (m : AM) : SM := fun env => bnd (m env) fun ds => match ds with
  | [a, b] => ret (.nx ((env.set i (some (.val a))).set j (some (.val b))))
  | _ => fail
def sPar3 (i j k : Nat) (m : AM) : SM := fun env => bnd (m env) fun ds => match ds with
  | [a, b, c] => ret (.nx (((env.set i (some (.val a))).set j (some (.val b))).set k (some (.val c))))
  | _ => fail
def sAugI (i : Nat) (f : Int → Int → Int) (m : DM) : SM := fun env => bnd (m env) fun d => match getV env i, d with
  | some (.int a), .int b => ret (.nx (env.set i (some (.val (.int (f a b))))))
  | _, _ => fail
section
variable {X : Cx} {st : Stmt} {sts : List Stmt} {m : DM} {s t : SM} {e : Expr} {pos : Pos}
theorem ds_pass : DS X (.Pass pos) sPass := ps_pass.imp fun D σ H ⟨F, B, W, env, n, r, n', rl, e, k⟩ => by
  obtain ⟨rfl, rfl⟩ := ret_some e
  exact k σ F H (.refl _) rl
theorem ds_break : DS X (.Break pos) sBrk := ps_break.imp fun D σ H ⟨F, B, W, env, n, r, n', rl, e, k⟩ => by
  obtain ⟨rfl, rfl⟩ := ret_some e
  exact k σ F H (.refl _) rl
theorem ds_cont : DS X (.Continue pos) sCnt := ps_continue.imp fun D σ H ⟨F, B, W, env, n, r, n', rl, e, k⟩ => by
  obtain ⟨rfl, rfl⟩ := ret_some e
  exact k σ F H (.refl _) rl
theorem ds_never : DS X st sFail := ps_never.imp fun D σ H ⟨F, B, W, env, n, r, n', rl, e, k⟩ => by cases e
theorem dss_nil : DSs X [] sPass := pss_nil.imp fun D σ H ⟨F, B, W, env, n, r, n', rl, e, k⟩ => by
  obtain ⟨rfl, rfl⟩ := ret_some e
  exact k σ F H (.refl _) rl
theorem dss_one (h : DS X st s) : DSs X [st] s := pss_one h
theorem dss_cons (h : DS X st s) (h2 : DSs X sts t) : DSs X (st :: sts) (sSeq s t) := (pss_cons h h2).imp fun D σ H ⟨F, B, W, env, n, r, n', rl, e, k⟩ => by
  obtain ⟨r1, n1, e1, e⟩ := bnd_some e
  refine ⟨F, B, W, env, n, r1, n1, rl, e1, ?_⟩
  cases r1 with
  | nx e2 => exact fun σ2 F2 H2 s2 rl2 => ⟨F2, B, W, e2, n1, r, n', rl2, e, k.mono s2⟩
  | ct e2 =>
    obtain ⟨rfl, rfl⟩ := ret_some e
    exact k
  | bk e2 =>
    obtain ⟨rfl, rfl⟩ := ret_some e
    exact k
  | rt d =>
    obtain ⟨rfl, rfl⟩ := ret_some e
    exact k
theorem ds_ret (h : DE X e m) : DS X (.Return (some e) pos) (sRet m) := (ps_ret h).imp fun D σ H ⟨F, B, W, env, n, r, n', rl, e, k⟩ => by
  obtain ⟨d, n1, e1, e⟩ := bnd_some e
  obtain ⟨rfl, rfl⟩ := ret_some e
  exact ⟨F, B, W, env, n, d, _, rl, e1, fun v F1 H1 g rl1 p => k v F1 H1 g.f rl1.zn rl1.wo p⟩
theorem ds_drop (h : DE X e m) (hs : swapsWith e none pos.line X.env = pure false := by rfl) : DS X (.Expr e pos) (sDrop m) := (ps_expr h hs).imp fun D σ H ⟨F, B, W, env, n, r, n', rl, e, k⟩ => by
  obtain ⟨d, n1, e1, e⟩ := bnd_some e
  obtain ⟨rfl, rfl⟩ := ret_some e
  exact ⟨F, B, W, env, n, d, _, rl, e1, fun v F1 H1 g rl1 p => k σ F1 H1 g.f rl1⟩
theorem ds_if {c : Expr} {a b : List Stmt} {tc : TM} (hc : DT X c tc) (ha : DSs X a s) (hb : DSs X b t) : DS X (.If c a b pos) (sIf tc s t) := (ps_if hc ha hb).imp fun D σ H ⟨F, B, W, env, n, r, n', rl, e, k⟩ => by
  obtain ⟨c, n1, e1, e⟩ := bnd_some e
  refine ⟨F, B, W, env, n, c, n1, rl, e1, fun F1 H1 g rl1 => ?_⟩
  cases c with
  | true =>
    simp only [if_true] at e ⊢
    exact ⟨F1, B, W, env, n1, r, n', rl1, e, k.mono g.f⟩
  | false =>
    simp only [Bool.false_eq_true, if_false] at e ⊢
    exact ⟨F1, B, W, env, n1, r, n', rl1, e, k.mono g.f⟩
theorem ds_asg {p : Pt} (h : PS X st (tAsg (rdE X.K m) (gOf X.K p))) : DS X st (sAsg p m) := h.imp fun D σ H ⟨F, B, W, env, n, r, n', rl, e, k⟩ => by
  obtain ⟨d, n1, e1, e⟩ := bnd_some e
  refine ⟨F, B, W, env, n, d, n1, rl, e1, fun v F1 H1 g rl1 pv => ?_⟩
  cases hb : bindP p d env with
  | none =>
    simp only [hb, fail] at e
    cases e
  | some e2 =>
    simp only [hb] at e
    obtain ⟨rfl, rfl⟩ := ret_some e
    exact rd_pt p d env _ σ v _ rl1 pv hb fun σ' rl2 _ => k σ' F1 H1 g.f rl2
theorem Rl.setOwn {K : PySem.W.Frag} {F B H : Hp} {W : Option Wl} {σ : L2.St} {env : Env} {n : Nat} {p : Addr} {e0 : En} (i : Nat) (r : Rl K F B W σ H env n) (h : EnOk K F B H W e0 (.ref p))
    (o : ∀ (j : Nat) (e : En), j ≠ i → env[j]? = some (some e) → e.mut = true → σ[j]? ≠ some (some (.ref p))) : Rl K F B W (σ.set i (some (.ref p))) H (env.set i (some e0)) n := by
  refine ⟨r.zn, r.wo, fun j e he => ?_, fun j k e e' u hjk h1 h2 m1 m2 h3 h4 => ?_, by simp [r.le]⟩
  · by_cases hij : i = j
    · subst hij
      by_cases hl : i < env.length
      · rw [List.getElem?_set_self hl] at he
        cases he
        exact ⟨_, List.getElem?_set_self (by rw [← r.le]; exact hl), h⟩
      · rw [List.getElem?_eq_none (by simpa using hl)] at he
        cases he
    · rw [List.getElem?_set_ne hij] at he ⊢
      exact r.sl j e he
  · have up : ∀ (j : Nat) (x : V), (σ.set i (some (V.ref p)))[j]? = some (some x) → i = j → x = .ref p := fun j x q z => by
      subst z
      by_cases hl : i < σ.length
      · rw [List.getElem?_set_self hl] at q
        cases q
        rfl
      · rw [List.getElem?_eq_none (by simpa using hl)] at q
        cases q
    by_cases n1 : i = j
    · have n2 : i ≠ k := fun z => hjk (n1.symm.trans z)
      have hu := up j u h3 n1
      subst hu
      rw [List.getElem?_set_ne n2] at h2 h4
      exact o k e' (Ne.symm n2) h2 m2 h4
    · rw [List.getElem?_set_ne n1] at h1 h3
      by_cases n2 : i = k
      · have hu := up k u h4 n2
        subst hu
        exact o j e (Ne.symm n1) h1 m1 h3
      · rw [List.getElem?_set_ne n2] at h2 h4
        exact r.ap j k e e' u hjk h1 h2 m1 m2 h3 h4
/-- the names that are one's own are not a new thing's -/
theorem fresh_ne {K : PySem.W.Frag} {F B H : Hp} {W : Option Wl} {σ : L2.St} {env : Env} {n : Nat} {p : Addr} (r : Rl K F B W σ H env n) (h : H p = none) (i : Nat) : ∀ (j : Nat) (e : En), j ≠ i → env[j]? = some (some e) → e.mut = true → σ[j]? ≠ some (some (.ref p)) := fun j e _ he hm => r.mut_ne h j e he hm
theorem ds_asgF {i : Nat} {m : AM} (h : PS X st (tAsg (rdF X.K m) (gName i))) : DS X st (sAsgF i m) := h.imp fun D σ H ⟨F, B, W, env, n, r, n', rl, e, k⟩ => by
  obtain ⟨ds, n1, e1, e⟩ := bnd_some e
  obtain ⟨rfl, rfl⟩ := ret_some e
  refine ⟨F, B, W, env, n, ds, _, rl, e1, fun p xs F1 H1 g rl1 hp hp1 fp ra => ?_⟩
  exact k _ F1 H1 g.f (rl1.setOwn i ⟨p, xs, rfl, hp1, ra, fp, ⟨same_none rl.zn.bb hp, rl.wo.ne hp⟩⟩ (fresh_ne rl hp i))
theorem ds_par {i j : Nat} {m : AM} (h : PS X st (tPar i j (rdA X.K m))) : DS X st (sPar i j m) := h.imp fun D σ H ⟨F, B, W, env, n, r, n', rl, e, k⟩ => by
  obtain ⟨ds, n1, e1, e⟩ := bnd_some e
  refine ⟨F, B, W, env, n, ds, n1, rl, e1, fun vs F1 H1 g rl1 p => ?_⟩
  cases p with
  | nil => cases e
  | @cons v vs d ds h1 p =>
    cases p with
    | nil => cases e
    | @cons v2 vs d2 ds h2 p =>
      cases p with
      | cons _ _ => cases e
      | nil =>
        obtain ⟨rfl, rfl⟩ := ret_some e
        exact ⟨v, v2, rfl, k _ F1 H1 g.f ((rl1.set i h1).set j h2)⟩
theorem ds_par3 {i j l : Nat} {m : AM} (h : PS X st (tPar3 i j l (rdA X.K m))) : DS X st (sPar3 i j l m) := h.imp fun D σ H ⟨F, B, W, env, n, r, n', rl, e, k⟩ => by
  obtain ⟨ds, n1, e1, e⟩ := bnd_some e
  refine ⟨F, B, W, env, n, ds, n1, rl, e1, fun vs F1 H1 g rl1 p => ?_⟩
  cases p with
  | nil => cases e
  | @cons v vs d ds h1 p =>
    cases p with
    | nil => cases e
    | @cons v2 vs d2 ds h2 p =>
      cases p with
      | nil => cases e
      | @cons v3 vs d3 ds h3 p =>
        cases p with
        | cons _ _ => cases e
        | nil =>
          obtain ⟨rfl, rfl⟩ := ret_some e
          exact ⟨v, v2, v3, rfl, k _ F1 H1 g.f (((rl1.set i h1).set j h2).set l h3)⟩
theorem ds_aug {i : Nat} {f : Int → Int → Int} (h : PS X st (tAug i (rdE X.K m) (ipI f))) : DS X st (sAugI i f m) := h.imp fun D σ H ⟨F, B, W, env, n, r, n', rl, e, k⟩ => by
  obtain ⟨d, n1, e1, e⟩ := bnd_some e
  obtain ⟨a, b, hv, rfl, e2⟩ : ∃ a b, getV env i = some (.int a) ∧ d = .int b ∧ ret (Fl.nx (env.set i (some (.val (.int (f a b)))))) n1 = some (r, n') := by
    cases hv : getV env i with
    | none => simp only [hv, fail] at e; cases e
    | some x =>
      cases x with
      | int a =>
        cases d with
        | int b =>
          simp only [hv] at e
          exact ⟨a, b, rfl, rfl, e⟩
        | _ => simp only [hv, fail] at e; cases e
      | _ => simp only [hv, fail] at e; cases e
  obtain ⟨rfl, rfl⟩ := ret_some e2
  obtain ⟨v, h1, h2⟩ := rl.sl i _ (getV_some hv)
  have h2 : Rp X.K F v (.int a) := h2
  rw [h2.int_inv] at h1
  refine ⟨.int a, h1, F, B, W, env, n, .int b, _, rl, e1, fun v F1 H1 g rl1 p => ?_⟩
  rw [p.int_inv]
  exact ⟨a, b, rfl, rfl, k _ F1 H1 g.f (rl1.set i (.int _))⟩

/-! ### loops -/
def forLoop (p : Pt) (s : SM) : List PyData → Env → OM Fl
  | [], env => ret (.nx env)
  | d :: ds, env => match bindP p d env with
    | none => fail
    | some e => bnd (s e) fun r => match r with
      | .nx e2 => forLoop p s ds e2
      | .ct e2 => forLoop p s ds e2
      | .bk e2 => ret (.nx e2)
      | .rt d => ret (.rt d)
def sFor (src : AM) (p : Pt) (s : SM) : SM := fun env => bnd (src env) fun ds => forLoop p s ds env
theorem forLoop_cons {p : Pt} {s : SM} {d : PyData} {ds : List PyData} {env : Env} {n n' : Nat} {r : Fl} (h : forLoop p s (d :: ds) env n = some (r, n')) :
    ∃ e, bindP p d env = some e ∧ bnd (s e) (fun r => match r with
      | .nx e2 => forLoop p s ds e2
      | .ct e2 => forLoop p s ds e2
      | .bk e2 => ret (.nx e2)
      | .rt d => ret (.rt d)) n = some (r, n') := by
  cases hb : bindP p d env with
  | none =>
    simp only [forLoop, hb, fail] at h
    cases h
  | some e =>
    simp only [forLoop, hb] at h
    exact ⟨e, rfl, h⟩
theorem ds_for {src : AM} {p : Pt} (h : PS X st (tFor (rdI X.K src) (gOf X.K p) (rdS X.K s))) : DS X st (sFor src p s) := h.imp fun D σ H ⟨F, B, W, env, n, r, n', rl, e, k⟩ => by
  obtain ⟨ds, n1, e1, e⟩ := bnd_some e
  refine ⟨F, B, W, env, n, ds, n1, rl, e1, fun J F1 H1 g rl1 wk => ?_⟩
  have k := k.mono g.f
  refine ⟨fun i m σ2 H2 => m = ds.length - i ∧ i ≤ ds.length ∧ ∃ F2 env2 n2, Same F1 F2 ∧ Rl X.K F2 B W σ2 H2 env2 n2 ∧ forLoop p s (ds.drop i) env2 n2 = some (r, n'), ⟨ds.length, by simp, Nat.zero_le _, F1, env, n1, .refl _, rl1, by simpa using e⟩, ?_⟩
  rintro i m σ2 H2 ⟨rfl, hi, F2, env2, n2, s2, rl2, lp⟩
  by_cases hlt : i < ds.length
  · right
    have hdi : ds.drop i = ds[i] :: ds.drop (i + 1) := List.drop_eq_getElem_cons hlt
    refine ⟨wk.go i H2 (s2.trans rl2.zn.ff) hlt, fun σ3 H3 => ∃ F3 env3 n3, Same F1 F3 ∧ Rl X.K F3 B W σ3 H3 env3 n3 ∧ forLoop p s (ds.drop (i + 1)) env3 n3 = some (r, n'), fun σ3 H3 hn => ⟨ds.length - (i + 1), by omega, rfl, hlt, hn⟩, fun x H3 hy => ?_⟩
    obtain ⟨d, F3, hd, gr, rp⟩ := wk.yld i F2 H2 x H3 s2 rl2.zn.ff hlt hy
    have hdd : ds[i] = d := by
      rw [List.getElem?_eq_getElem hlt] at hd
      exact Option.some.inj hd
    rw [hdi, hdd] at lp
    obtain ⟨e2, hb, lp⟩ := forLoop_cons lp
    have s3 := s2.trans gr.f
    refine rd_pt p d env2 e2 σ2 x _ (rl2.gr gr) rp hb fun σ3 rl3 _ => ?_
    obtain ⟨r1, n3, hs, lp⟩ := bnd_some lp
    refine ⟨F3, B, W, e2, n2, r1, n3, rl3, hs, ?_⟩
    cases r1 with
    | nx e3 => exact fun σ4 F4 H4 s4 rl4 => ⟨F4, e3, n3, s3.trans s4, rl4, lp⟩
    | ct e3 => exact fun σ4 F4 H4 s4 rl4 => ⟨F4, e3, n3, s3.trans s4, rl4, lp⟩
    | bk e3 =>
      obtain ⟨rfl, rfl⟩ := ret_some lp
      exact fun σ4 F4 H4 s4 rl4 => k σ4 F4 H4 (s3.trans s4) rl4
    | rt d =>
      obtain ⟨rfl, rfl⟩ := ret_some lp
      exact fun v F4 H4 s4 z w q => k v F4 H4 (s3.trans s4) z w q
  · left
    have : i = ds.length := by omega
    subst this
    rw [List.drop_length] at lp
    obtain ⟨rfl, rfl⟩ := ret_some lp
    exact ⟨wk.stop H2 (s2.trans rl2.zn.ff), k σ2 F2 H2 s2 rl2⟩
def whLoop (t : TM) (s : SM) : Nat → Env → OM Fl
  | 0, _ => fail
  | k + 1, env => bnd (t env) fun b => if b = true then bnd (s env) fun r => match r with
      | .nx e2 => whLoop t s k e2
      | .ct e2 => whLoop t s k e2
      | .bk e2 => ret (.nx e2)
      | .rt d => ret (.rt d)
    else ret (.nx env)
/-- a while of at most so many turns -/
def sWhile (fuel : Nat) (t : TM) (s : SM) : SM := fun env => whLoop t s fuel env
theorem ds_while {fuel : Nat} {tc : TM} (h : PS X st (tWhile (rdT X.K tc) (rdS X.K s))) : DS X st (sWhile fuel tc s) := h.imp fun D σ H ⟨F, B, W, env, n, r, n', rl, e, k⟩ => by
  refine ⟨fun m σ2 H2 => ∃ F2 env2 n2, Same F F2 ∧ Rl X.K F2 B W σ2 H2 env2 n2 ∧ whLoop tc s m env2 n2 = some (r, n'), ⟨fuel, F, env, n, .refl _, rl, e⟩, ?_⟩
  rintro m σ2 H2 ⟨F2, env2, n2, s2, rl2, lp⟩
  cases m with
  | zero => cases lp
  | succ m =>
    obtain ⟨b, n3, ht, lp⟩ := bnd_some (show bnd (tc env2) _ n2 = _ from lp)
    refine ⟨F2, B, W, env2, n2, b, n3, rl2, ht, fun F3 H3 g3 rl3 => ?_⟩
    have s3 := s2.trans g3.f
    cases b with
    | false =>
      simp only [Bool.false_eq_true, if_false] at lp ⊢
      obtain ⟨rfl, rfl⟩ := ret_some lp
      exact k σ2 F3 H3 s3 rl3
    | true =>
      simp only [if_true] at lp ⊢
      obtain ⟨r1, n4, hs, lp⟩ := bnd_some lp
      refine ⟨fun σ4 H4 => ∃ F4 env4 n4, Same F F4 ∧ Rl X.K F4 B W σ4 H4 env4 n4 ∧ whLoop tc s m env4 n4 = some (r, n'), fun σ4 H4 hn => ⟨m, Nat.lt_succ_self _, hn⟩, F3, B, W, env2, n3, r1, n4, rl3, hs, ?_⟩
      cases r1 with
      | nx e3 => exact fun σ4 F4 H4 s4 rl4 => ⟨F4, e3, n4, s3.trans s4, rl4, lp⟩
      | ct e3 => exact fun σ4 F4 H4 s4 rl4 => ⟨F4, e3, n4, s3.trans s4, rl4, lp⟩
      | bk e3 =>
        obtain ⟨rfl, rfl⟩ := ret_some lp
        exact fun σ4 F4 H4 s4 rl4 => k σ4 F4 H4 (s3.trans s4) rl4
      | rt d =>
        obtain ⟨rfl, rfl⟩ := ret_some lp
        exact fun v F4 H4 s4 z w q => k v F4 H4 (s3.trans s4) z w q
end

/-! ### defs -/
def startE (N : Nat) (ds : List PyData) : Env := ds.map (fun d => some (.val d)) ++ List.replicate (N - ds.length) none
/-- what the body hands back for such arguments -/
def runF (body : SM) (N : Nat) : List PyData → Option PyData := fun ds => match body (startE N ds) 0 with
  | some (.rt d, _) => some d
  | some (.nx _, _) => some .none
  | _ => none
def SpP (K : PySem.W.Frag) (k : Nat) (f : List PyData → Option PyData) : Sp := fun vs H Q _ => ∃ F B ds d, Zn F B H ∧ RpAll K F vs ds ∧ ds.length = k ∧ f ds = some d ∧ ∀ v F' H', Same F F' → Zn F' B H' → Rp K F' v d → Q v H'
theorem startE_some {N : Nat} {ds : List PyData} {i : Nat} {e : En} (h : (startE N ds)[i]? = some (some e)) : ∃ d, ds[i]? = some d ∧ e = .val d := by
  unfold startE at h
  by_cases hi : i < ds.length
  · rw [List.getElem?_append_left (by simpa using hi), List.getElem?_map, List.getElem?_eq_getElem hi] at h
    simp at h
    exact ⟨_, List.getElem?_eq_getElem hi, h.symm⟩
  · rw [List.getElem?_append_right (by simpa using hi)] at h
    rw [List.getElem?_replicate] at h
    split at h <;> simp at h
theorem Rl.start {K : PySem.W.Frag} {F B H : Hp} {N : List Str} {vs : List V} {ds : List PyData} (z : Zn F B H) (r : RpAll K F vs ds) : Rl K F B none (L2.start N vs) H (startE N.length ds) 0 := by
  refine ⟨z, trivial, fun i e he => ?_, fun i j e e' v _ h1 _ m1 => ?_, ?_⟩
  · obtain ⟨d, h1, rfl⟩ := startE_some he
    obtain ⟨x, h2, h3⟩ := r.get h1
    refine ⟨x, ?_, h3⟩
    unfold L2.start
    have hi := (List.getElem?_eq_some_iff.mp h2).1
    rw [List.getElem?_append_left (by simpa using hi), List.getElem?_map, h2]
    rfl
  · obtain ⟨d, _, rfl⟩ := startE_some h1
    cases m1
  · unfold startE L2.start
    rw [List.length_append, List.length_append, List.length_map, List.length_map, List.length_replicate, List.length_replicate, r.len]
section
variable {P : Program} {w : World} {K : PySem.W.Frag} {mg : Str → Option Value} {base : Heap}
/-- a def keeps its promise: it hands back what its body's denotation hands back -/
theorem fn_ok {x qual : Str} {st : Stmt} {f : Addr} {fd : FuncData} {N ps : List Str} {k kk nn : Nat} {m : SM} (F : Fun K x qual st f fd) (S : FnScope N ps (defScope st)) (hkk : ps.length = kk) (hnn : N.length = nn)
    (h : ∀ (cdv : Value) (A : Around) (outer : List PySem.Env) (s : Shared) (H : Hp) (E : XK), Room k (A.deeper (envOfC qual (defScope st) s.heap.objs.size f cdv)) → DSs (cxOf CX0 P w K mg base N qual (defScope st) f cdv A outer s H E).nox (defBody st) m) :
    FnOk P w K mg base CX0 (k + 1) f fd ps (SpP K kk (runF m nn)) := by
  subst hkk hnn
  refine F.ok S (fun vs H Q E ⟨F0, B, ds, d, z, r, hl, _⟩ => by rw [r.len, hl]) fun cdv A outer s H vs Q E hr ⟨F0, B, ds, d, z, r, hl, e, kk⟩ => ?_
  refine ⟨rdS K m, h cdv A outer s H E hr, ?_⟩
  unfold runF at e
  split at e
  · rename_i d2 n2 h2
    cases e
    exact ⟨F0, B, none, _, 0, _, _, .start z r, h2, fun v F' H' s z' _ p => kk v F' H' s z' p⟩
  · rename_i e2 n2 h2
    cases e
    exact ⟨F0, B, none, _, 0, _, _, .start z r, h2, fun σ F' H' s rl => kk .non F' H' s rl.zn .non⟩
  · cases e
/-- all that is not frozen, as others' -/
def rest (F H : Hp) : Hp := fun a => match F a with
  | some _ => none
  | none => H a
theorem zn_rest {F H : Hp} (s : Same F H) : Zn F (rest F H) H := by
  refine ⟨s, fun a o e => ?_, fun a o e => ?_⟩
  · unfold rest at e
    split at e
    · cases e
    · exact e
  · unfold rest at e
    split at e
    · cases e
    · assumption
theorem gr_rest {F H F' H' : Hp} (s : Same F H) (f : Same F F') (z : Zn F' (rest F H) H') : Gr F H F' H' := by
  have q : ∀ a o, H a = some o → F a = none → rest F H a = some o := fun a o e n => by
    unfold rest
    rw [n]
    exact e
  refine ⟨f, fun a o e => ?_, z.ff, fun a o e n => z.dj a o (q a o e n)⟩
  cases n : F a with
  | none => exact z.bb a o (q a o e n)
  | some u =>
    have : u = o := by
      have := s a u n
      rw [e] at this
      exact (Option.some.inj this).symm
    subst this
    exact z.ff a _ (f a _ n)
theorem de_call {X : Cx} {e : Expr} {m : AM} {k : Nat} {f : List PyData → Option PyData} {E : XK} (h : PE X e (tCall (SpP X.K k f) [] E (rdA X.K m))) (hk : ∀ env n ds n', m env n = some (ds, n') → ds.length = k) : DE X e (dCallB f m) := h.imp fun σ H Q ⟨F, B, W, env, n, d, n', rl, e, kk⟩ => by
  obtain ⟨ds, n1, e1, e⟩ := bnd_some e
  obtain ⟨e3, rfl⟩ := lift_some e
  refine ⟨F, B, W, env, n, ds, n', rl, e1, fun vs F1 H1 g rl1 r => ?_⟩
  refine ⟨F1, rest F1 H1, ds, d, zn_rest rl1.zn.ff, ?_, hk _ _ _ _ e1, e3, fun v F' H' s z p => ?_⟩
  · rw [List.append_nil]
    exact r
  · have gr := gr_rest rl1.zn.ff s z
    exact kk v F' H' (g.trans (.of gr)) (rl1.gr gr) p
theorem aNil_len {env : Env} {n n' : Nat} {ds : List PyData} (h : aNil env n = some (ds, n')) : ds.length = 0 := by
  obtain ⟨rfl, rfl⟩ := ret_some h
  rfl
theorem aCons_len {m : DM} {r : AM} {k : Nat} (hr : ∀ env n ds n', r env n = some (ds, n') → ds.length = k) : ∀ env n ds n', aCons m r env n = some (ds, n') → ds.length = k + 1 := fun env n ds n' h => by
  obtain ⟨d, n1, _, h⟩ := bnd_some h
  obtain ⟨ds2, n2, h2, h⟩ := bnd_some h
  obtain ⟨rfl, rfl⟩ := ret_some h
  rw [List.length_cons, hr _ _ _ _ h2]
end
end DL

/-! DL, part e: operations on data. -/
namespace DL
open PySem PySem.Spec PyProof.Rows L2

section
variable {K : PySem.W.Frag}
theorem gr_tup {F H : Hp} (s : Same F H) {p : Addr} {xs : List V} {ds : List PyData} (hp : H p = none) (r : RpAll K F xs ds) : Gr F H (upd F p (.tup xs)) (upd H p (.tup xs)) ∧ Rp K (upd F p (.tup xs)) (.ref p) (.tuple ds) :=
  have g : Gr F H (upd F p (.tup xs)) (upd H p (.tup xs)) := .new s hp
  ⟨g, .tup (.of upd_same) (r.mono g.f)⟩
theorem sq_tup {F H : Hp} (s : Same F H) {a : Addr} {xs : List V} (h : SqT K F a xs) : SqT K H a xs := sqt_mono s h

/-! ### sums -/
def addD (x y : PyData) : Option PyData := match x with
  | .int i => match y with
    | .int j => some (.int (i + j))
    | _ => none
  | .str a => match y with
    | .str b => if a.length + b.length ≤ sizeLine then some (.str (a ++ b)) else none
    | _ => none
  | .tuple a => match y with
    | .tuple b => if a.length + b.length ≤ lim then some (.tuple (a ++ b)) else none
    | _ => none
  | _ => none
def rAddA (K : PySem.W.Frag) : R2 := fun x y H Q => (rI0 fun i j => .int (i + j)) x y H Q ∨ ((∃ i j, x = .str i ∧ y = .str j ∧ i.length + j.length ≤ sizeLine ∧ Q (.str (i ++ j)) H) ∨ rCatA K x y H Q)
theorem op_addA {X : Cx} : OpR X (binaryOp .Add) (rAddA X.K) := op_add.or (op_add_str.or op_catA)
theorem r_add : R2D K (rAddA K) addD := fun F H x y d1 d2 d Q s p1 p2 e k => by
  unfold addD at e
  split at e
  · split at e
    · cases e
      rw [p1.int_inv, p2.int_inv]
      exact .inl ⟨_, _, rfl, rfl, k _ F H (.refl s) (.int _)⟩
    · cases e
  · split at e
    · split at e
      · cases e
        rw [p1.str_inv, p2.str_inv]
        exact .inr (.inl ⟨_, _, rfl, rfl, by assumption, k _ F H (.refl s) (.str _)⟩)
      · cases e
    · cases e
  · split at e
    · split at e
      · cases e
        rename_i as _ bs hl
        obtain ⟨a, xs, rfl, h1, r1⟩ := p1.tup_inv
        obtain ⟨b, ys, rfl, h2, r2⟩ := p2.tup_inv
        refine .inr (.inr ⟨a, b, xs, ys, rfl, rfl, sq_tup s h1, sq_tup s h2, by rw [r1.len, r2.len]; exact lim_le hl, fun z => ?_, fun _ z => ?_, fun _ _ p hp => ?_⟩)
        · subst z
          cases r1
          exact k _ F H (.refl s) (.tup h2 r2)
        · subst z
          cases r2
          rw [List.append_nil] at k
          exact k _ F H (.refl s) (.tup h1 r1)
        · have g := gr_tup (K := K) s hp (r1.append r2)
          exact k _ _ _ g.1 g.2
      · cases e
    · cases e
  · cases e
/-- whole numbers alone -/
def intD (C : Int → Int → Bool) (g : Int → Int → PyData) (x y : PyData) : Option PyData := match x with
  | .int i => match y with
    | .int j => if C i j = true then some (g i j) else none
    | _ => none
  | _ => none
theorem intD_some {C : Int → Int → Bool} {g : Int → Int → PyData} {x y d : PyData} (h : intD C g x y = some d) : ∃ i j, x = .int i ∧ y = .int j ∧ C i j = true ∧ d = g i j := by
  unfold intD at h
  split at h
  · split at h
    · split at h
      · cases h
        exact ⟨_, _, rfl, rfl, by assumption, rfl⟩
      · cases h
    · cases h
  · cases h
def subD := intD (fun _ _ => true) fun i j => .int (i - j)
def mulD := intD (fun i j => (decide (-18446744073709551616 < i) && decide (i < 18446744073709551616)) || (decide (-18446744073709551616 < j) && decide (j < 18446744073709551616))) fun i j => .int (i * j)
def fdivD := intD (fun _ j => decide (0 < j) && decide (j < 1073741824)) fun i j => .int (i / j)
def modD := intD (fun _ j => decide (0 < j)) fun i j => .int (i % j)
def ltD := intD (fun _ _ => true) fun i j => .bool (decide (i < j))
def leD := intD (fun _ _ => true) fun i j => .bool (decide (i ≤ j))
def gtD := intD (fun _ _ => true) fun i j => .bool (decide (j < i))
def geD := intD (fun _ _ => true) fun i j => .bool (decide (j ≤ i))
theorem r_sub : R2D K (rI0 fun i j => .int (i - j)) subD := fun F H x y d1 d2 d Q s p1 p2 e k => by
  obtain ⟨i, j, rfl, rfl, _, rfl⟩ := intD_some e
  rw [p1.int_inv, p2.int_inv]
  exact ⟨_, _, rfl, rfl, k _ F H (.refl s) (.int _)⟩
theorem r_mul : R2D K (rI CMul fun i j => .int (i * j)) mulD := fun F H x y d1 d2 d Q s p1 p2 e k => by
  obtain ⟨i, j, rfl, rfl, c, rfl⟩ := intD_some e
  rw [p1.int_inv, p2.int_inv]
  refine ⟨_, _, rfl, rfl, ?_, k _ F H (.refl s) (.int _)⟩
  simp only [Bool.or_eq_true, Bool.and_eq_true, decide_eq_true_eq] at c
  exact c
theorem r_fdiv : R2D K (rI CDiv fun i j => .int (i / j)) fdivD := fun F H x y d1 d2 d Q s p1 p2 e k => by
  obtain ⟨i, j, rfl, rfl, c, rfl⟩ := intD_some e
  rw [p1.int_inv, p2.int_inv]
  refine ⟨_, _, rfl, rfl, ?_, k _ F H (.refl s) (.int _)⟩
  simp only [Bool.and_eq_true, decide_eq_true_eq] at c
  exact c
theorem r_mod : R2D K (rI (fun _ j => 0 < j) fun i j => .int (i % j)) modD := fun F H x y d1 d2 d Q s p1 p2 e k => by
  obtain ⟨i, j, rfl, rfl, c, rfl⟩ := intD_some e
  rw [p1.int_inv, p2.int_inv]
  exact ⟨_, _, rfl, rfl, of_decide_eq_true c, k _ F H (.refl s) (.int _)⟩
theorem r_lt : R2D K (rI0 fun i j => .bl (decide (i < j))) ltD := fun F H x y d1 d2 d Q s p1 p2 e k => by
  obtain ⟨i, j, rfl, rfl, _, rfl⟩ := intD_some e
  rw [p1.int_inv, p2.int_inv]
  exact ⟨_, _, rfl, rfl, k _ F H (.refl s) (.bl _)⟩
theorem r_le : R2D K (rI0 fun i j => .bl (decide (i ≤ j))) leD := fun F H x y d1 d2 d Q s p1 p2 e k => by
  obtain ⟨i, j, rfl, rfl, _, rfl⟩ := intD_some e
  rw [p1.int_inv, p2.int_inv]
  exact ⟨_, _, rfl, rfl, k _ F H (.refl s) (.bl _)⟩
theorem r_gt : R2D K (rI0 fun i j => .bl (decide (j < i))) gtD := fun F H x y d1 d2 d Q s p1 p2 e k => by
  obtain ⟨i, j, rfl, rfl, _, rfl⟩ := intD_some e
  rw [p1.int_inv, p2.int_inv]
  exact ⟨_, _, rfl, rfl, k _ F H (.refl s) (.bl _)⟩
theorem r_ge : R2D K (rI0 fun i j => .bl (decide (j ≤ i))) geD := fun F H x y d1 d2 d Q s p1 p2 e k => by
  obtain ⟨i, j, rfl, rfl, _, rfl⟩ := intD_some e
  rw [p1.int_inv, p2.int_inv]
  exact ⟨_, _, rfl, rfl, k _ F H (.refl s) (.bl _)⟩
/-- great numbers -/
def wideM : Nat := 2 ^ 4000
def mulWD := intD (fun i j => decide (i.natAbs < wideM) && decide (j.natAbs < wideM)) fun i j => .int (i * j)
def fdivWD := intD (fun i j => decide (0 < j) && decide (j.natAbs < wideM)) fun i j => .int (i / j)
theorem r_mulW : R2D K (rI CMulW fun i j => .int (i * j)) mulWD := fun F H x y d1 d2 d Q s p1 p2 e k => by
  obtain ⟨i, j, rfl, rfl, c, rfl⟩ := intD_some e
  rw [p1.int_inv, p2.int_inv]
  simp only [Bool.and_eq_true, decide_eq_true_eq] at c
  exact ⟨_, _, rfl, rfl, wide_mul c.1 c.2 (by decide) (by decide) (by decide), k _ F H (.refl s) (.int _)⟩
theorem r_fdivW : R2D K (rI CDivW fun i j => .int (i / j)) fdivWD := fun F H x y d1 d2 d Q s p1 p2 e k => by
  obtain ⟨i, j, rfl, rfl, c, rfl⟩ := intD_some e
  rw [p1.int_inv, p2.int_inv]
  simp only [Bool.and_eq_true, decide_eq_true_eq] at c
  exact ⟨_, _, rfl, rfl, wide_div c.1 c.2 (by decide) (by decide), k _ F H (.refl s) (.int _)⟩

/-! ### == and != -/
def eqD (x y : PyData) : Option PyData := if (SeqAt.shaped x && SeqAt.shaped y) = true then some (.bool (PyData.eqv x y)) else none
def neD (x y : PyData) : Option PyData := if (SeqAt.shaped x && SeqAt.shaped y) = true then some (.bool (!PyData.eqv x y)) else none
theorem Lp.dp {F H : Hp} {v : V} {d : PyData} (s : Same F H) (h : Lp K F H v d) (c : SeqAt.shaped d = true) : Dp K H v d := (h.weak s).dp (SeqAt.canLay_of_shaped c)
theorem r_eq : R2D K (rEqD K) eqD := fun F H x y d1 d2 d Q s p1 p2 e k => by
  unfold eqD at e
  split at e
  · cases e
    rename_i c
    simp only [Bool.and_eq_true] at c
    exact ⟨d1, d2, p1.dp s c.1, p2.dp s c.2, c.1, c.2, k _ F H (.refl s) (.bl _)⟩
  · cases e
theorem r_ne : R2D K (rNeD K) neD := fun F H x y d1 d2 d Q s p1 p2 e k => by
  unfold neD at e
  split at e
  · cases e
    rename_i c
    simp only [Bool.and_eq_true] at c
    exact ⟨d1, d2, p1.dp s c.1, p2.dp s c.2, c.1, c.2, k _ F H (.refl s) (.bl _)⟩
  · cases e
/-- is None -/
def isNone : PyData → Bool
  | .none => true
  | _ => false
def isD (x y : PyData) : Option PyData := match y with
  | .none => some (.bool (isNone x))
  | _ => none
def isntD (x y : PyData) : Option PyData := match y with
  | .none => some (.bool (!isNone x))
  | _ => none
theorem Lp.isNone {F H : Hp} {v : V} {d : PyData} (h : Lp K F H v d) : decide (v = .non) = DL.isNone d := by
  rcases h with h | ⟨a, xs, ds, rfl, rfl, _⟩
  · cases h <;> rfl
  · rfl
theorem r_is : R2D K (fun x y H Q => y = .non ∧ Q (.bl (decide (x = .non))) H) isD := fun F H x y d1 d2 d Q s p1 p2 e k => by
  unfold isD at e
  split at e
  · cases e
    refine ⟨p2.non_inv, ?_⟩
    rw [p1.isNone]
    exact k _ F H (.refl s) (.bl _)
  · cases e
theorem r_isnt : R2D K (fun x y H Q => y = .non ∧ Q (.bl (!decide (x = .non))) H) isntD := fun F H x y d1 d2 d Q s p1 p2 e k => by
  unfold isntD at e
  split at e
  · cases e
    refine ⟨p2.non_inv, ?_⟩
    rw [p1.isNone]
    exact k _ F H (.refl s) (.bl _)
  · cases e
/-! ### in, of flat things -/
def flat : PyData → Bool
  | .none => true
  | .bool _ => true
  | .int _ => true
  | .str _ => true
  | _ => false
def seqOf : PyData → Option (List PyData)
  | .list ds => some ds
  | .tuple ds => some ds
  | _ => none
def inD (x y : PyData) : Option PyData := match seqOf y with
  | some ds => if (flat x && ds.all flat) = true then some (.bool (ds.any fun z => PyData.eqv z x)) else none
  | none => none
def notInD (x y : PyData) : Option PyData := match seqOf y with
  | some ds => if (flat x && ds.all flat) = true then some (.bool (!ds.any fun z => PyData.eqv z x)) else none
  | none => none
theorem Rp.flat {F : Hp} {v : V} {d : PyData} (h : Rp K F v d) (f : DL.flat d = true) : flatV v = true := by
  cases h <;> first | rfl | cases f
theorem Rp.eqV {F : Hp} {v u : V} {d e : PyData} (h : Rp K F v d) (h2 : Rp K F u e) (f : DL.flat d = true) (f2 : DL.flat e = true) : L2.eqV v u = PyData.eqv d e := by
  cases h <;> cases h2 <;> first | rfl | cases f | cases f2
theorem RpAll.inV {F : Hp} {v : V} {d : PyData} (h : Rp K F v d) (f : DL.flat d = true) : ∀ {xs : List V} {ds : List PyData}, RpAll K F xs ds → ds.all DL.flat = true → L2.inV v xs = (ds.any fun z => PyData.eqv z d) ∧ xs.all flatV = true
  | _, _, .nil, _ => ⟨rfl, rfl⟩
  | _, _, .cons q r, a => by
    simp only [List.all_cons, Bool.and_eq_true] at a
    obtain ⟨h1, h2⟩ := RpAll.inV h f r a.2
    refine ⟨?_, by simp only [List.all_cons, q.flat a.1, h2, Bool.and_self]⟩
    show (L2.eqV _ v || L2.inV v _) = _
    rw [h1, q.eqV h a.1 f]
    rfl
theorem Lp.seq {F H : Hp} {v : V} {d : PyData} {ds : List PyData} (s : Same F H) (h : Lp K F H v d) (e : seqOf d = some ds) : ∃ a xs, v = .ref a ∧ (SqL K H a xs ∨ SqT K H a xs) ∧ RpAll K F xs ds := by
  cases d with
  | list es =>
    cases e
    obtain ⟨a, xs, rfl, h, r⟩ := h.lst_inv s
    exact ⟨a, xs, rfl, .inl (.of h), r⟩
  | tuple es =>
    cases e
    obtain ⟨a, xs, rfl, h, r⟩ := h.tup_inv
    exact ⟨a, xs, rfl, .inr (sqt_mono s h), r⟩
  | _ => cases e
theorem Lp.rp_flat {F H : Hp} {v : V} {d : PyData} (h : Lp K F H v d) (f : DL.flat d = true) : Rp K F v d := by
  rcases h with h | ⟨a, xs, ds, rfl, _⟩
  · exact h
  · cases f
theorem r_in : R2D K (rIn K false) inD := fun F H x y d1 d2 d Q s p1 p2 e k => by
  unfold inD at e
  split at e
  · rename_i ds hs
    split at e
    · cases e
      rename_i c
      simp only [Bool.and_eq_true] at c
      obtain ⟨a, xs, rfl, h, r⟩ := p2.seq s hs
      have q := p1.rp_flat c.1
      obtain ⟨h1, h2⟩ := RpAll.inV q c.1 r c.2
      refine ⟨a, xs, rfl, h, q.flat c.1, h2, ?_⟩
      rw [h1]
      exact k _ F H (.refl s) (.bl _)
    · cases e
  · cases e
theorem r_notIn : R2D K (rIn K true) notInD := fun F H x y d1 d2 d Q s p1 p2 e k => by
  unfold notInD at e
  split at e
  · rename_i ds hs
    split at e
    · cases e
      rename_i c
      simp only [Bool.and_eq_true] at c
      obtain ⟨a, xs, rfl, h, r⟩ := p2.seq s hs
      have q := p1.rp_flat c.1
      obtain ⟨h1, h2⟩ := RpAll.inV q c.1 r c.2
      refine ⟨a, xs, rfl, h, q.flat c.1, h2, ?_⟩
      rw [h1]
      exact k _ F H (.refl s) (.bl _)
    · cases e
  · cases e

/-! ### items, slices -/
def ixD (x y : PyData) : Option PyData := match seqOf x with
  | some ds => match y with
    | .int i => atI ds i
    | _ => none
  | none => none
theorem atI_rp {F : Hp} {xs : List V} {ds : List PyData} {i : Int} {d : PyData} (r : RpAll K F xs ds) (h : atI ds i = some d) : ∃ v, atI xs i = some v ∧ Rp K F v d := by
  unfold atI at h ⊢
  rw [r.len]
  cases hj : ixN ds.length i with
  | none => rw [hj] at h; cases h
  | some j =>
    rw [hj] at h
    exact r.get h
def rIxS2 (K : PySem.W.Frag) : R2 := fun x y H Q => rIxL K x y H Q ∨ rIxT K x y H Q
theorem ix_sq {X : Cx} : IxR X (rIxS2 X.K) := ix_list.or ix_tup
theorem r_ix : R2D K (rIxS2 K) ixD := fun F H x y d1 d2 d Q s p1 p2 e k => by
  unfold ixD at e
  split at e
  · rename_i ds hs
    split at e
    · obtain ⟨a, xs, rfl, h, r⟩ := p1.seq s hs
      obtain ⟨v, h1, h2⟩ := atI_rp r e
      rw [p2.int_inv]
      rcases h with h | h
      · exact .inl ⟨a, xs, _, v, rfl, rfl, h, h1, k _ F H (.refl s) h2⟩
      · exact .inr ⟨a, xs, _, v, rfl, rfl, h, h1, k _ F H (.refl s) h2⟩
    · cases e
  · cases e
theorem de_ix {X : Cx} {a b : Expr} {ma mb : DM} {pos : Pos} (ha : LE X a ma) (hb : LE X b mb) (hs : PlainIx b := by intro _ _; rfl) : DE X (.Subscript a b pos) (dOp ixD ma mb) := (pe_ix ix_sq ha hb hs).imp fun _ _ _ h => rd_op r_ix h
/-- an optional part of a slice -/
abbrev OMn := Env → OM (Option Int)
def oNone : OMn := fun _ => ret none
def oSome (m : DM) : OMn := fun env => bnd (m env) fun d => lift (match d with
  | .int i => some (some i)
  | _ => none)
def rdO (K : PySem.W.Frag) (m : OMn) : TO := fun σ H Q => ∃ F B W env n o n', Rl K F B W σ H env n ∧ m env n = some (o, n') ∧ ∀ F' H', Go W F H F' H' → Rl K F' B W σ H' env n' → Q o H'
abbrev DO (X : Cx) (e : Option Expr) (m : OMn) : Prop := PO X e (rdO X.K m)
theorem _root_.L2.PO.imp {X : Cx} {e : Option Expr} {t t' : TO} (h : PO X e t) (k : ∀ σ H Q, t' σ H Q → t σ H Q) : PO X e t' := ⟨fun pins s σ H Q I w => h.run pins s σ H Q I (k σ H Q w)⟩
theorem do_none {X : Cx} : DO X none oNone := po_none.imp fun σ H Q ⟨F, B, W, env, n, d, n', rl, e, k⟩ => by
  obtain ⟨rfl, rfl⟩ := ret_some e
  exact k F H .refl rl
theorem do_some {X : Cx} {e : Expr} {m : DM} (h : DE X e m) : DO X (some e) (oSome m) := (po_some h).imp fun σ H Q ⟨F, B, W, env, n, o, n', rl, e, k⟩ => by
  obtain ⟨d, n1, e1, e⟩ := bnd_some e
  obtain ⟨e3, rfl⟩ := lift_some e
  refine ⟨F, B, W, env, n, d, n', rl, e1, fun v F1 H1 g rl1 p => ?_⟩
  cases d with
  | int i =>
    cases e3
    exact ⟨i, p.int_inv, k F1 H1 g rl1⟩
  | _ => cases e3
def cutD (xs : List PyData) (lo hi : Option Int) : List PyData := (xs.drop (HT.sIx xs.length 0 lo)).take (HT.sIx xs.length xs.length hi - HT.sIx xs.length 0 lo)
theorem cut_rp {F : Hp} {xs : List V} {ds : List PyData} (r : RpAll K F xs ds) (lo hi : Option Int) : RpAll K F (cutV xs lo hi) (cutD ds lo hi) := by
  unfold cutV cutD
  rw [r.len]
  exact (r.drop _).take _
def dSlT (m : DM) (lo hi : OMn) : DM := fun env => bnd (m env) fun d => bnd (lo env) fun l => bnd (hi env) fun h => lift (match d with
  | .tuple ds => some (.tuple (cutD ds l h))
  | _ => none)
def dSlL (m : DM) (lo hi : OMn) : AM := fun env => bnd (m env) fun d => bnd (lo env) fun l => bnd (hi env) fun h => lift (match d with
  | .list ds => some (cutD ds l h)
  | _ => none)
theorem sIx_whole {n : Nat} {lo hi : Option Int} {α : Type} {xs : List α} (hn : xs.length = n) (h : HT.sIx n 0 lo = 0 ∧ HT.sIx n n hi = n) : (xs.drop (HT.sIx n 0 lo)).take (HT.sIx n n hi - HT.sIx n 0 lo) = xs := by
  rw [h.1, h.2, List.drop_zero, Nat.sub_zero, ← hn, List.take_length]
theorem de_slT {X : Cx} {e : Expr} {lo hi : Option Expr} {m : DM} {ml mh : OMn} {p2 pos : Pos} (he : LE X e m) (hl : DO X lo ml) (hu : DO X hi mh) : DE X (.Subscript e (.Slice lo hi none p2) pos) (dSlT m ml mh) :=
  (pe_slice sl_tupA he hl hu).imp fun σ H Q ⟨F, B, W, env, n, o, n', rl, e, k⟩ => by
    obtain ⟨d, n1, e1, e⟩ := bnd_some e
    obtain ⟨l, n2, e2, e⟩ := bnd_some e
    obtain ⟨h, n3, e3, e⟩ := bnd_some e
    obtain ⟨e4, rfl⟩ := lift_some e
    refine ⟨F, B, W, env, n, d, n1, rl, e1, fun v F1 H1 g1 rl1 p1 => ⟨F1, B, W, env, n1, l, n2, rl1, e2, fun F2 H2 g2 rl2 => ⟨F2, B, W, env, n2, h, n', rl2, e3, fun F3 H3 g3 rl3 => ?_⟩⟩⟩
    have p3 := ((p1.go g2).go g3).lp
    have g := (g1.trans g2).trans g3
    cases d with
    | tuple ds =>
      cases e4
      obtain ⟨a, xs, rfl, hs, r⟩ := p3.tup_inv
      have c := cut_rp r l h
      refine ⟨a, xs, rfl, sqt_mono rl3.zn.ff hs, fun w => ?_, fun w p hp => ?_⟩
      · have : cutD ds l h = ds := by
          unfold cutD
          rw [r.len] at w
          exact sIx_whole rfl w
        rw [this] at k
        exact k _ F3 H3 g rl3 (.tup hs r)
      · have q := gr_tup (K := X.K) rl3.zn.ff hp c
        exact k _ _ _ (g.trans (.of q.1)) (rl3.gr q.1) q.2
    | _ => cases e4
theorem fe_slL {X : Cx} {e : Expr} {lo hi : Option Expr} {m : DM} {ml mh : OMn} {p2 pos : Pos} (he : LE X e m) (hl : DO X lo ml) (hu : DO X hi mh) : FE X (.Subscript e (.Slice lo hi none p2) pos) (dSlL m ml mh) :=
  (pe_slice sl_list he hl hu).imp fun σ H Q ⟨F, B, W, env, n, o, n', rl, e, k⟩ => by
    obtain ⟨d, n1, e1, e⟩ := bnd_some e
    obtain ⟨l, n2, e2, e⟩ := bnd_some e
    obtain ⟨h, n3, e3, e⟩ := bnd_some e
    obtain ⟨e4, rfl⟩ := lift_some e
    refine ⟨F, B, W, env, n, d, n1, rl, e1, fun v F1 H1 g1 rl1 p1 => ⟨F1, B, W, env, n1, l, n2, rl1, e2, fun F2 H2 g2 rl2 => ⟨F2, B, W, env, n2, h, n', rl2, e3, fun F3 H3 g3 rl3 => ?_⟩⟩⟩
    have p3 := ((p1.go g2).go g3).lp
    have g := (g1.trans g2).trans g3
    cases d with
    | list ds =>
      cases e4
      obtain ⟨a, xs, rfl, hs, r⟩ := p3.lst_inv rl3.zn.ff
      refine ⟨a, xs, rfl, .of hs, fun p hp => ?_⟩
      have gr : Gr F3 H3 F3 (upd H3 p (.lst (cutV xs l h))) := .mine rl3.zn.ff hp
      exact k p _ F3 _ (g.trans (.of gr)) (rl3.gr gr) (g1.keepNone rl rl1 (g2.keepNone rl1 rl2 (g3.keepNone rl2 rl3 hp))) upd_same (same_none rl3.zn.ff hp) (cut_rp r l h)
    | _ => cases e4

/-! ### unary -/
def dUn (g : PyData → Option PyData) (m : DM) : DM := fun env => bnd (m env) fun d => lift (g d)
def negD : PyData → Option PyData
  | .int i => some (.int (-i))
  | _ => none
theorem de_neg {X : Cx} {a : Expr} {m : DM} {pos : Pos} (h : DE X a m) : DE X (.UnaryOp .USub a pos) (dUn negD m) := (pe_un un_neg h).imp fun σ H Q ⟨F, B, W, env, n, o, n', rl, e, k⟩ => by
  obtain ⟨d, n1, e1, e⟩ := bnd_some e
  obtain ⟨e4, rfl⟩ := lift_some e
  refine ⟨F, B, W, env, n, d, n', rl, e1, fun v F1 H1 g1 rl1 p1 => ?_⟩
  cases d with
  | int i =>
    cases e4
    exact ⟨i, p1.int_inv, k _ F1 H1 g1 rl1 (.int _)⟩
  | _ => cases e4

/-! ### a < b < c -/
def dChain (g g' : PyData → PyData → Option PyData) (a b c : DM) : DM := fun env => bnd (a env) fun x => bnd (b env) fun y => bnd (lift (g x y)) fun z => match z with
  | .bool true => bnd (c env) fun w => lift (g' y w)
  | .bool false => ret (.bool false)
  | _ => fail
theorem rd_chain {K : PySem.W.Frag} {r r' : R2} {g g' : PyData → PyData → Option PyData} (hr : R2D K r g) (hr' : R2D K r' g') {a b c : DM} {σ : L2.St} {H : Hp} {Q : VK} (h : rdE K (dChain g g' a b c) σ H Q) : tChain r r' (rdL K a) (rdL K b) (rdL K c) σ H Q := by
  obtain ⟨F, B, W, env, n, d, n', rl, e, k⟩ := h
  obtain ⟨d1, n1, e1, e⟩ := bnd_some e
  obtain ⟨d2, n2, e2, e⟩ := bnd_some e
  obtain ⟨z, n3, e3, e⟩ := bnd_some e
  obtain ⟨e7, rfl⟩ := lift_some e3
  refine ⟨F, B, W, env, n, d1, n1, rl, e1, fun v F1 H1 s1 rl1 p1 => ⟨F1, B, W, env, n1, d2, _, rl1, e2, fun w F2 H2 s2 rl2 p2 => ?_⟩⟩
  have p1 := p1.go s2
  refine hr F2 H2 v w d1 d2 z _ rl2.zn.ff p1.lp p2.lp e7 fun u F3 H3 g3 p3 => ?_
  have rl3 := rl2.gr g3
  have gg := (s1.trans s2).trans (.of g3)
  cases z with
  | bool q =>
    refine ⟨q, p3.bl_inv, ?_⟩
    cases q with
    | true =>
      simp only [if_true]
      obtain ⟨d3, n4, e5, e⟩ := bnd_some e
      obtain ⟨e6, rfl⟩ := lift_some e
      refine ⟨F3, B, W, env, _, d3, _, rl3, e5, fun y F4 H4 s4 rl4 p4 => ?_⟩
      exact hr' F4 H4 w y d2 d3 d Q rl4.zn.ff ((p2.gr g3).go s4).lp p4.lp e6 fun t F5 H5 g5 p5 => k t F5 H5 ((gg.trans s4).trans (.of g5)) (rl4.gr g5) p5
    | false =>
      simp only [Bool.false_eq_true, if_false]
      obtain ⟨rfl, rfl⟩ := ret_some e
      exact k _ F3 H3 gg rl3 (.bl _)
  | _ => cases e
theorem de_chain {X : Cx} {g g' : PyData → PyData → Option PyData} {r r' : R2} {ma mb mc : DM} {e : Expr} (hr : R2D X.K r g) (hr' : R2D X.K r' g') (h : PE X e (tChain r r' (rdL X.K ma) (rdL X.K mb) (rdL X.K mc))) : DE X e (dChain g g' ma mb mc) := h.imp fun _ _ _ h => rd_chain hr hr' h
theorem dt_chain {X : Cx} {g g' : PyData → PyData → Option PyData} {r r' : R2} {ma mb mc : DM} {e : Expr} (hr : R2D X.K r g) (hr' : R2D X.K r' g') (h : PT X e (tTest (tChain r r' (rdL X.K ma) (rdL X.K mb) (rdL X.K mc)))) : DT X e (tOf (dChain g g' ma mb mc)) := h.imp fun σ H Q h => by
  obtain ⟨F, B, W, env, n, d, n', rl, e, k⟩ := h
  obtain ⟨d1, n1, e1, e⟩ := bnd_some e
  obtain ⟨e3, rfl⟩ := lift_some e
  refine rd_chain hr hr' ⟨F, B, W, env, n, d1, n', rl, e1, fun v F1 H1 s1 rl1 p1 => ?_⟩
  cases d1 with
  | bool b =>
    cases e3
    exact ⟨_, p1.bl_inv, k F1 H1 s1 rl1⟩
  | _ => cases e3
end
end DL

/-! DL, part f: built-in functions on data. -/
namespace DL
open PySem PySem.Spec PyProof.Rows L2
section
variable {K : PySem.W.Frag}
def arg1 (g : PyData → Option PyData) (ds : List PyData) : Option PyData := match ds with
  | [d] => g d
  | _ => none
def arg1F (g : PyData → Option (List PyData)) (ds : List PyData) : Option (List PyData) := match ds with
  | [d] => g d
  | _ => none
def arg2 (g : PyData → PyData → Option PyData) (ds : List PyData) : Option PyData := match ds with
  | [d, e] => g d e
  | _ => none
theorem arg1_some {g : PyData → Option PyData} {ds : List PyData} {r : PyData} (h : arg1 g ds = some r) : ∃ d, ds = [d] ∧ g d = some r := by
  unfold arg1 at h
  split at h
  · exact ⟨_, rfl, h⟩
  · cases h
theorem arg1F_some {g : PyData → Option (List PyData)} {ds : List PyData} {r : List PyData} (h : arg1F g ds = some r) : ∃ d, ds = [d] ∧ g d = some r := by
  unfold arg1F at h
  split at h
  · exact ⟨_, rfl, h⟩
  · cases h
theorem arg2_some {g : PyData → PyData → Option PyData} {ds : List PyData} {r : PyData} (h : arg2 g ds = some r) : ∃ d e, ds = [d, e] ∧ g d e = some r := by
  unfold arg2 at h
  split at h
  · exact ⟨_, _, rfl, h⟩
  · cases h
theorem LpAll.one {F H : Hp} {vs : List V} {d : PyData} (h : LpAll K F H vs [d]) : ∃ v, vs = [v] ∧ Lp K F H v d := by
  cases h with
  | cons a b =>
    cases b
    exact ⟨_, rfl, a⟩
theorem LpAll.two {F H : Hp} {vs : List V} {d e : PyData} (h : LpAll K F H vs [d, e]) : ∃ v u, vs = [v, u] ∧ Lp K F H v d ∧ Lp K F H u e := by
  cases h with
  | cons a b =>
    cases b with
    | cons c b =>
      cases b
      exact ⟨_, _, rfl, a, c⟩
/-- len -/
def lenD := arg1 fun d => match seqOf d with
  | some ds => some (.int (ds.length : Int))
  | none => none
theorem r_len {X : Cx} : RCD X.K (fun xs H Q => ∃ p ys, xs = [.ref p] ∧ (SqL X.K H p ys ∨ SqT X.K H p ys) ∧ Q (.int ys.length) H) lenD := fun F H vs ds d Q s p' e' k => by
  obtain ⟨x, rfl, e⟩ := arg1_some e'
  obtain ⟨v, rfl, p⟩ := p'.one
  split at e
  · cases e
    obtain ⟨a, xs, rfl, h, r⟩ := p.seq s (by assumption)
    refine ⟨a, xs, rfl, h, ?_⟩
    rw [r.len]
    exact k _ F H (.refl s) (.int _)
  · cases e
def absD := arg1 fun d => match d with
  | .int i => some (.int (if i < 0 then -i else i))
  | _ => none
theorem r_abs : RCD K (fun xs H Q => ∃ i, xs = [.int i] ∧ Q (.int (if i < 0 then -i else i)) H) absD := fun F H vs ds d Q s p' e' k => by
  obtain ⟨x, rfl, e⟩ := arg1_some e'
  obtain ⟨v, rfl, p⟩ := p'.one
  split at e
  · cases e
    rw [p.int_inv]
    exact ⟨_, rfl, k _ F H (.refl s) (.int _)⟩
  · cases e
/-- int of an int, of a truth value -/
def intOfD := arg1 fun d => match d with
  | .int i => some (.int i)
  | .bool b => some (.int (if b then 1 else 0))
  | _ => none
theorem r_int : RCD K (fun xs H Q => (∃ i, xs = [.int i] ∧ Q (.int i) H) ∨ ∃ k, xs = [.bl k] ∧ Q (.int (if k then 1 else 0)) H) intOfD := fun F H vs ds d Q s p' e' k => by
  obtain ⟨x, rfl, e⟩ := arg1_some e'
  obtain ⟨v, rfl, p⟩ := p'.one
  split at e
  · cases e
    rw [p.int_inv]
    exact .inl ⟨_, rfl, k _ F H (.refl s) (.int _)⟩
  · cases e
    rw [p.bl_inv]
    exact .inr ⟨_, rfl, k _ F H (.refl s) (.int _)⟩
  · cases e
def maxD := arg2 fun x y => intD (fun _ _ => true) (fun i j => .int (if j > i then j else i)) x y
def minD := arg2 fun x y => intD (fun _ _ => true) (fun i j => .int (if j < i then j else i)) x y
theorem r_max2 : RCD K (fun xs H Q => ∃ i j, xs = [.int i, .int j] ∧ Q (.int (if j > i then j else i)) H) maxD := fun F H vs ds d Q s p' e' k => by
  obtain ⟨x, y, rfl, e⟩ := arg2_some e'
  obtain ⟨v, u, rfl, p, q⟩ := p'.two
  obtain ⟨i, j, rfl, rfl, _, rfl⟩ := intD_some e
  rw [p.int_inv, q.int_inv]
  exact ⟨_, _, rfl, k _ F H (.refl s) (.int _)⟩
theorem r_min2 : RCD K (fun xs H Q => ∃ i j, xs = [.int i, .int j] ∧ Q (.int (if j < i then j else i)) H) minD := fun F H vs ds d Q s p' e' k => by
  obtain ⟨x, y, rfl, e⟩ := arg2_some e'
  obtain ⟨v, u, rfl, p, q⟩ := p'.two
  obtain ⟨i, j, rfl, rfl, _, rfl⟩ := intD_some e
  rw [p.int_inv, q.int_inv]
  exact ⟨_, _, rfl, k _ F H (.refl s) (.int _)⟩
/-- a list's ints, truth values -/
def intsOf : List PyData → Option (List Int)
  | [] => some []
  | d :: ds => match d with
    | .int i => match intsOf ds with
      | some r => some (i :: r)
      | none => none
    | _ => none
def boolsOf : List PyData → Option (List Bool)
  | [] => some []
  | d :: ds => match d with
    | .bool i => match boolsOf ds with
      | some r => some (i :: r)
      | none => none
    | _ => none
theorem intsOf_some : ∀ {ds : List PyData} {ns : List Int}, intsOf ds = some ns → ds = ns.map PyData.int
  | [], ns, h => by cases h; rfl
  | d :: ds, ns, h => by
    unfold intsOf at h
    split at h
    · split at h
      · cases h
        rename_i i r hr
        rw [intsOf_some hr]
        rfl
      · cases h
    · cases h
theorem boolsOf_some : ∀ {ds : List PyData} {ns : List Bool}, boolsOf ds = some ns → ds = ns.map PyData.bool
  | [], ns, h => by cases h; rfl
  | d :: ds, ns, h => by
    unfold boolsOf at h
    split at h
    · split at h
      · cases h
        rename_i i r hr
        rw [boolsOf_some hr]
        rfl
      · cases h
    · cases h
theorem intsOf_map : ∀ ns : List Int, intsOf (ns.map PyData.int) = some ns
  | [] => rfl
  | n :: r => by
    show (match intsOf (r.map PyData.int) with
      | some r => some (n :: r)
      | none => none) = _
    rw [intsOf_map r]
theorem boolsOf_map : ∀ ns : List Bool, boolsOf (ns.map PyData.bool) = some ns
  | [] => rfl
  | n :: r => by
    show (match boolsOf (r.map PyData.bool) with
      | some r => some (n :: r)
      | none => none) = _
    rw [boolsOf_map r]
/-- sum of a list or a tuple of ints -/
def sumD := arg1 fun d => match seqOf d with
  | some ds => match intsOf ds with
    | some ns => some (.int ns.sum)
    | none => none
  | none => none
def rSumA (K : PySem.W.Frag) : List V → Hp → VK → Prop := fun vs H Q => ∃ (a : Addr) (ns : List Int), vs = [V.ref a] ∧ (SqL K H a (ns.map V.int) ∨ SqT K H a (ns.map V.int)) ∧ Q (.int ns.sum) H
theorem sumT_raw {prog : Program} {w : World} {A : Around} {E : Value → Shared → Prop} {s : Shared} {l : Addr} {its : List Value} {ns : List Int} {Q : Value → Shared → Prop} (hh : A.handled = none) (hl : s.heap.IsTuple l its.toArray) (hi : IntsAre its ns)
    (h : ∀ h' tk t', (∀ b o, s.heap.get? b = some o → h'.get? b = some o) → Q (.int ns.sum t') { s with heap := h', toks := tk }) : wpAny (model prog w) A (call (.builtin "sum") [.ref l]) Q E s := by
  obtain ⟨xs, e⟩ := hi.allInts.items
  have hn : numsOf (intItems xs).toList = ns := by rw [← e]; exact hi.numsOf
  rw [nums_intItems] at hn
  rw [e] at hl
  refine PySem.W.ktm_sumG hh hl fun h' tk t' hk => ?_
  have := h h' tk t' hk
  rw [preSum_eq, List.take_of_length_le (by simp), hn]; exact this
theorem cr_sumA {X : Cx} (hc : X.calm = true) : CallR X (.builtin "sum") (rSumA X.K) := by
  intro pins s σ H vs us Q I r h
  obtain ⟨a, ns, rfl, hs, q⟩ := h
  rcases hs with hs | hs
  · exact cr_sum hc pins s σ H _ us Q I r ⟨a, ns, rfl, hs, q⟩
  · obtain ⟨its, rv, hl, _⟩ := I.tuple hs
    rw [Vals.ref1 r]
    exact sumT_raw (I.ok.hd hc) hl rv.ints fun h' tk t' hk => ⟨.int _, H, I.kept hk, ⟨_, rfl⟩, q⟩
theorem r_sum : RCD K (rSumA K) sumD := fun F H vs ds d Q s p' e' k => by
  obtain ⟨x, rfl, e⟩ := arg1_some e'
  obtain ⟨v, rfl, p⟩ := p'.one
  split at e
  · rename_i es hs
    split at e
    · rename_i ns hn
      cases e
      obtain ⟨a, xs, rfl, h, r⟩ := p.seq s hs
      rw [intsOf_some hn] at r
      rw [r.ints_inv] at h
      exact ⟨a, ns, rfl, h, k _ F H (.refl s) (.int _)⟩
    · cases e
  · cases e
/-- all, any of a list of truth values -/
def allD := arg1 fun d => match d with
  | .list ds => match boolsOf ds with
    | some ns => some (.bool (ns.all id))
    | none => none
  | _ => none
def anyD := arg1 fun d => match d with
  | .list ds => match boolsOf ds with
    | some ns => some (.bool (ns.any id))
    | none => none
  | _ => none
theorem r_all : RCD K (rAll K) allD := fun F H vs ds d Q s p' e' k => by
  obtain ⟨x, rfl, e⟩ := arg1_some e'
  obtain ⟨v, rfl, p⟩ := p'.one
  split at e
  · split at e
    · rename_i ns hn
      cases e
      obtain ⟨a, xs, rfl, h, r⟩ := p.lst_inv s
      rw [boolsOf_some hn] at r
      rw [r.bls_inv] at h
      exact ⟨a, ns, rfl, .of h, k _ F H (.refl s) (.bl _)⟩
    · cases e
  · cases e
theorem r_any : RCD K (rAny K) anyD := fun F H vs ds d Q s p' e' k => by
  obtain ⟨x, rfl, e⟩ := arg1_some e'
  obtain ⟨v, rfl, p⟩ := p'.one
  split at e
  · split at e
    · rename_i ns hn
      cases e
      obtain ⟨a, xs, rfl, h, r⟩ := p.lst_inv s
      rw [boolsOf_some hn] at r
      rw [r.bls_inv] at h
      exact ⟨a, ns, rfl, .of h, k _ F H (.refl s) (.bl _)⟩
    · cases e
  · cases e
/-- max, min of a list of ints -/
def maxL : List Int → Int
  | [] => 0
  | x :: r => r.foldl (fun a b => if b > a then b else a) x
def minL : List Int → Int
  | [] => 0
  | x :: r => r.foldl (fun a b => if b < a then b else a) x
theorem foldMax : ∀ (r : List Int) (x : Int), (r.foldl (fun a b => if b > a then b else a) x ∈ x :: r) ∧ ∀ y ∈ x :: r, y ≤ r.foldl (fun a b => if b > a then b else a) x
  | [], x => ⟨by simp, by simp⟩
  | z :: r, x => by
    obtain ⟨h1, h2⟩ := foldMax r (if z > x then z else x)
    rw [List.foldl_cons]
    have h3 := h2 _ List.mem_cons_self
    have hw : x ≤ (if z > x then z else x) ∧ z ≤ (if z > x then z else x) := by split <;> omega
    refine ⟨?_, fun y hy => ?_⟩
    · rcases List.mem_cons.mp h1 with h | h
      · rw [h]
        split <;> simp
      · exact List.mem_cons_of_mem _ (List.mem_cons_of_mem _ h)
    · rcases List.mem_cons.mp hy with h | h
      · subst h
        exact Int.le_trans hw.1 h3
      · rcases List.mem_cons.mp h with h | h
        · subst h
          exact Int.le_trans hw.2 h3
        · exact h2 y (List.mem_cons_of_mem _ h)
theorem foldMin : ∀ (r : List Int) (x : Int), (r.foldl (fun a b => if b < a then b else a) x ∈ x :: r) ∧ ∀ y ∈ x :: r, r.foldl (fun a b => if b < a then b else a) x ≤ y
  | [], x => ⟨by simp, by simp⟩
  | z :: r, x => by
    obtain ⟨h1, h2⟩ := foldMin r (if z < x then z else x)
    rw [List.foldl_cons]
    have h3 := h2 _ List.mem_cons_self
    have hw : (if z < x then z else x) ≤ x ∧ (if z < x then z else x) ≤ z := by split <;> omega
    refine ⟨?_, fun y hy => ?_⟩
    · rcases List.mem_cons.mp h1 with h | h
      · rw [h]
        split <;> simp
      · exact List.mem_cons_of_mem _ (List.mem_cons_of_mem _ h)
    · rcases List.mem_cons.mp hy with h | h
      · subst h
        exact Int.le_trans h3 hw.1
      · rcases List.mem_cons.mp h with h | h
        · subst h
          exact Int.le_trans h3 hw.2
        · exact h2 y (List.mem_cons_of_mem _ h)
def max1D := arg1 fun d => match d with
  | .list ds => match intsOf ds with
    | some (x :: r) => some (.int (maxL (x :: r)))
    | _ => none
  | _ => none
def min1D := arg1 fun d => match d with
  | .list ds => match intsOf ds with
    | some (x :: r) => some (.int (minL (x :: r)))
    | _ => none
  | _ => none
theorem r_max1 : RCD K (rMax K) max1D := fun F H vs ds d Q s p' e' k => by
  obtain ⟨x, rfl, e⟩ := arg1_some e'
  obtain ⟨v, rfl, p⟩ := p'.one
  split at e
  · split at e
    · rename_i y rr hn
      cases e
      obtain ⟨a, xs, rfl, h, r⟩ := p.lst_inv s
      rw [intsOf_some hn] at r
      rw [r.ints_inv] at h
      refine ⟨a, _, rfl, .of h, by simp, fun m hm hle => ?_⟩
      obtain ⟨h1, h2⟩ := foldMax rr y
      have : m = maxL (y :: rr) := Int.le_antisymm (h2 m hm) (hle _ h1)
      subst this
      exact k _ F H (.refl s) (.int _)
    · cases e
  · cases e
theorem r_min1 : RCD K (rMin K) min1D := fun F H vs ds d Q s p' e' k => by
  obtain ⟨x, rfl, e⟩ := arg1_some e'
  obtain ⟨v, rfl, p⟩ := p'.one
  split at e
  · split at e
    · rename_i y rr hn
      cases e
      obtain ⟨a, xs, rfl, h, r⟩ := p.lst_inv s
      rw [intsOf_some hn] at r
      rw [r.ints_inv] at h
      refine ⟨a, _, rfl, .of h, by simp, fun m hm hle => ?_⟩
      obtain ⟨h1, h2⟩ := foldMin rr y
      have : m = minL (y :: rr) := Int.le_antisymm (hle _ h1) (h2 m hm)
      subst this
      exact k _ F H (.refl s) (.int _)
    · cases e
  · cases e
/-- tuple(xs), list(xs) -/
def tupOfD := arg1 fun d => match seqOf d with
  | some ds => some (.tuple ds)
  | none => none
theorem r_tupOf : RCD K (fun xs H Q => ∃ p ys, xs = [.ref p] ∧ ((SqL K H p ys ∧ ∀ l, H l = none → Q (.ref l) (upd H l (.tup ys))) ∨ (SqT K H p ys ∧ Q (.ref p) H))) tupOfD := fun F H vs ds d Q s p' e' k => by
  obtain ⟨x, rfl, e⟩ := arg1_some e'
  obtain ⟨v, rfl, p⟩ := p'.one
  cases x with
  | list es =>
    cases e
    obtain ⟨a, xs, rfl, h, r⟩ := p.lst_inv s
    refine ⟨a, xs, rfl, .inl ⟨.of h, fun l hl => ?_⟩⟩
    have q := gr_tup (K := K) s hl r
    exact k _ _ _ q.1 q.2
  | tuple es =>
    cases e
    obtain ⟨a, xs, rfl, h, r⟩ := p.tup_inv
    exact ⟨a, xs, rfl, .inr ⟨sqt_mono s h, k _ F H (.refl s) (.tup h r)⟩⟩
  | _ => cases e
def listOfD := arg1F seqOf
theorem r_listOf : RCF K (fun xs H Q => ∃ p ys, xs = [.ref p] ∧ (SqL K H p ys ∨ SqT K H p ys) ∧ ∀ l, H l = none → Q (.ref l) (upd H l (.lst ys))) listOfD := fun F H vs ds d Q s p' e' k => by
  obtain ⟨x, rfl, e⟩ := arg1F_some e'
  obtain ⟨v, rfl, p⟩ := p'.one
  obtain ⟨a, xs, rfl, h, r⟩ := p.seq s e
  exact ⟨a, xs, rfl, h, fun l hl => k l xs hl r⟩
/-- sorted ints -/
def insI (x : Int) : List Int → List Int
  | [] => [x]
  | y :: r => if x ≤ y then x :: y :: r else y :: insI x r
def sortI : List Int → List Int
  | [] => []
  | x :: r => insI x (sortI r)
theorem insI_perm (x : Int) : ∀ l : List Int, (insI x l).Perm (x :: l)
  | [] => .refl _
  | y :: r => by
    unfold insI
    split
    · exact .refl _
    · exact ((insI_perm x r).cons y).trans (.swap x y r)
theorem sortI_perm : ∀ l : List Int, (sortI l).Perm l
  | [] => .refl _
  | x :: r => (insI_perm x (sortI r)).trans ((sortI_perm r).cons x)
theorem insI_sorted (x : Int) : ∀ {l : List Int}, l.Pairwise (· ≤ ·) → (insI x l).Pairwise (· ≤ ·)
  | [], _ => by simp [insI]
  | y :: r, h => by
    unfold insI
    have h2 := List.pairwise_cons.mp h
    split
    · rename_i hx
      refine List.pairwise_cons.mpr ⟨fun z hz => ?_, h⟩
      rcases List.mem_cons.mp hz with rfl | hz
      · exact hx
      · exact Int.le_trans hx (h2.1 z hz)
    · refine List.pairwise_cons.mpr ⟨fun z hz => ?_, insI_sorted x h2.2⟩
      rcases List.mem_cons.mp ((insI_perm x r).mem_iff.mp hz) with rfl | hz
      · omega
      · exact h2.1 z hz
theorem sortI_sorted : ∀ l : List Int, (sortI l).Pairwise (· ≤ ·)
  | [] => .nil
  | x :: r => insI_sorted x (sortI_sorted r)
theorem sorted_unique : ∀ {l m : List Int}, l.Perm m → l.Pairwise (· ≤ ·) → m.Pairwise (· ≤ ·) → l = m := fun h a b => List.Perm.eq_of_pairwise (fun x y _ _ h1 h2 => Int.le_antisymm h1 h2) a b h
def sortedD := arg1F fun d => match seqOf d with
  | some ds => match intsOf ds with
    | some ns => some ((sortI ns).map PyData.int)
    | none => none
  | none => none
/-- of a list alone -/
def sortedLD := arg1F fun d => match d with
  | .list ds => match intsOf ds with
    | some ns => some ((sortI ns).map PyData.int)
    | none => none
  | _ => none
theorem r_sorted : RCF K (rSortedI K) sortedLD := fun F H vs ds d Q s p' e' k => by
  obtain ⟨x, rfl, e⟩ := arg1F_some e'
  obtain ⟨v, rfl, p⟩ := p'.one
  split at e
  · split at e
    · rename_i ns hn
      cases e
      obtain ⟨a, xs, rfl, h, r⟩ := p.lst_inv s
      rw [intsOf_some hn] at r
      rw [r.ints_inv] at h
      refine ⟨a, ns, rfl, .of h, fun ns' p hp hs hn => ?_⟩
      have : ns' = sortI ns := sorted_unique (hp.trans (sortI_perm ns).symm) hs (sortI_sorted ns)
      subst this
      exact k p _ hn (.ints _)
    · cases e
  · cases e
/-- xs * n of a list -/
def repD (x y : PyData) : Option (List PyData) := match x with
  | .list ds => match y with
    | .int k => if -9223372036854775808 ≤ k ∧ k < 9223372036854775808 ∧ ds.length * k.toNat ≤ lim then some (List.replicate k.toNat ds).flatten else none
    | _ => none
  | _ => none
theorem r_rep : R2F K rRep repD := fun F H x y d1 d2 ds Q s p1 p2 e k => by
  unfold repD at e
  split at e
  · split at e
    · split at e
      · cases e
        rename_i c
        obtain ⟨a, xs, rfl, h, r⟩ := p1.lst_inv s
        rw [p2.int_inv]
        refine ⟨a, _, xs, rfl, rfl, h, c.1, c.2.1, ?_, fun p hp => k p _ hp (r.rep _)⟩
        rw [r.len]
        exact lim_le c.2.2
      · cases e
    · cases e
  · cases e
/-- xs + ys of lists -/
def catD (x y : PyData) : Option (List PyData) := match x with
  | .list a => match y with
    | .list b => if a.length + b.length ≤ lim then some (a ++ b) else none
    | _ => none
  | _ => none
theorem r_cat : R2F K rCat catD := fun F H x y d1 d2 ds Q s p1 p2 e k => by
  unfold catD at e
  split at e
  · split at e
    · split at e
      · cases e
        rename_i c
        obtain ⟨a, xs, rfl, h, r⟩ := p1.lst_inv s
        obtain ⟨b, ys, rfl, h2, r2⟩ := p2.lst_inv s
        refine ⟨a, b, xs, ys, rfl, rfl, h, h2, by rw [r.len, r2.len]; exact lim_le c, fun p hp => k p _ hp (r.append r2)⟩
      · cases e
    · cases e
  · cases e
/-- list(range(..)) -/
def listRgD (m : AM) : AM := fun env => bnd (m env) fun ds => if ds.length ≤ lim then ret ds else fail
/-- isinstance of a built-in class -/
def tyName : PyData → String
  | .none => "NoneType"
  | .bool _ => "bool"
  | .int _ => "int"
  | .str _ => "str"
  | .list _ => "list"
  | .tuple _ => "tuple"
  | .dict _ => "dict"
/-- int, bool, tuple -/
def isiD (T : String) (d : PyData) : Option PyData := match T with
  | "int" => (match d with
    | .int _ => some (.bool true)
    | .bool _ => some (.bool true)
    | _ => some (.bool false))
  | "bool" => (match d with
    | .bool _ => some (.bool true)
    | _ => some (.bool false))
  | "tuple" => (match d with
    | .tuple _ => some (.bool true)
    | _ => some (.bool false))
  | _ => none
theorem Rp.tyX {F H : Hp} {v : V} {d : PyData} (s : Same F H) (h : Rp K F v d) : TyX K H v (.type (tyName d)) := by
  cases h with
  | non => exact .base .non
  | bl b => exact .base (.bl b)
  | int i => exact .base (.int i)
  | str x => exact .base (.str x)
  | lst h r => exact .base (.lst (s _ _ h))
  | tup h r =>
    rcases h with (h | ⟨o, h⟩) | ⟨o, its, n, h, c, _⟩
    · exact .base (.tup (s _ _ h))
    · exact .fTuple (s _ _ h)
    · exact .kTuple h c
  | dK h n r => exact .base (.dK (s _ _ h))
  | dT h n r => exact .base (.dT (s _ _ h))
theorem kit_int (d : PyData) (b : Bool) (h : isiD "int" d = some (.bool b)) : kitB (tyName d) "int" = some b := by
  cases d <;> (simp only [isiD, Option.some.injEq, PyData.bool.injEq] at h; subst h; dsimp only [tyName]; decide +kernel)
theorem kit_bool (d : PyData) (b : Bool) (h : isiD "bool" d = some (.bool b)) : kitB (tyName d) "bool" = some b := by
  cases d <;> (simp only [isiD, Option.some.injEq, PyData.bool.injEq] at h; subst h; dsimp only [tyName]; decide +kernel)
theorem kit_tuple (d : PyData) (b : Bool) (h : isiD "tuple" d = some (.bool b)) : kitB (tyName d) "tuple" = some b := by
  cases d <;> (simp only [isiD, Option.some.injEq, PyData.bool.injEq] at h; subst h; dsimp only [tyName]; decide +kernel)
theorem isiD_bool {T : String} {d r : PyData} (h : isiD T d = some r) : ∃ b, r = .bool b := by
  unfold isiD at h
  split at h
  · split at h <;> (cases h; exact ⟨_, rfl⟩)
  · split at h <;> (cases h; exact ⟨_, rfl⟩)
  · split at h <;> (cases h; exact ⟨_, rfl⟩)
  · cases h
/-- isinstance(e, T) -/
theorem de_isi {X : Cx} {e : Expr} {m : DM} {T : String} (hT : ∀ d b, isiD T d = some (.bool b) → kitB (tyName d) T = some b) (h : PE X e (tCB (rIsi X.K) (tCons (rdE X.K m) (tCons (tC (.ty T)) tNil)))) : DE X e (dUn (isiD T) m) := h.imp fun σ H Q ⟨F, B, W, env, n, o, n', rl, e, k⟩ => by
  obtain ⟨d, n1, e1, e⟩ := bnd_some e
  obtain ⟨e4, rfl⟩ := lift_some e
  refine ⟨F, B, W, env, n, d, n', rl, e1, fun v F1 H1 g1 rl1 p1 => ?_⟩
  obtain ⟨b, rfl⟩ := isiD_bool e4
  exact ⟨v, .ty T, _, _, b, rfl, .ty T, p1.tyX rl1.zn.ff, kit_ty (hT d b e4), k _ F1 H1 g1 rl1 (.bl _)⟩
end
end DL

/-! DL, part g: lists that change, the script, the draws. -/
namespace DL
open PySem PySem.Spec PyProof.Rows L2
section
variable {X : Cx} {st : Stmt} {e : Expr}
def powD := intD (fun i j => decide (0 ≤ j) && decide (j ≤ 1000000) && decide (i.natAbs < 2 ^ 64)) fun i j => .int (i ^ j.toNat)
theorem r_pow {K : PySem.W.Frag} : R2D K (rI CPow fun i j => .int (i ^ j.toNat)) powD := fun F H x y d1 d2 d Q s p1 p2 e k => by
  obtain ⟨i, j, rfl, rfl, c, rfl⟩ := intD_some e
  rw [p1.int_inv, p2.int_inv]
  simp only [Bool.and_eq_true, decide_eq_true_eq] at c
  exact ⟨_, _, rfl, rfl, ⟨c.1.1, c.1.2, c.2⟩, k _ F H (.refl s) (.int _)⟩
def getO (env : Env) (i : Nat) : Option (List PyData) := match env[i]? with
  | some (some (.own ds)) => some ds
  | _ => none
theorem getO_some {env : Env} {i : Nat} {ds : List PyData} (h : getO env i = some ds) : env[i]? = some (some (.own ds)) := by
  unfold getO at h
  split at h
  · cases h; assumption
  · cases h
/-- one's own list changed -/
theorem Rl.updOwn {K : PySem.W.Frag} {F B H : Hp} {W : Option Wl} {σ : L2.St} {env : Env} {n : Nat} {a : Addr} {ds ds' : List PyData} {xs' : List V} {i : Nat} (r : Rl K F B W σ H env n) (he : env[i]? = some (some (.own ds))) (hs : σ[i]? = some (some (.ref a)))
    (r' : RpAll K F xs' ds') : Rl K F B W σ (upd H a (.lst xs')) (env.set i (some (.own ds'))) n := by
  obtain ⟨v, h1, b, xs, rfl, hH, ra, fa, ba, wa⟩ := r.sl i _ he
  rw [hs] at h1
  cases h1
  have hi := (List.getElem?_eq_some_iff.mp he).1
  refine ⟨⟨same_mut r.zn.ff fa, same_mut r.zn.bb ba, r.zn.dj⟩, ?_, fun j e hj => ?_, fun j k e e' u hjk h1 h2 m1 m2 h3 h4 => ?_, by simp [r.le]⟩
  · have q := r.wo
    cases W with
    | none => trivial
    | some w =>
      obtain ⟨h1, h2, h3⟩ := q
      exact ⟨Wl.upd_now h1 (wa w rfl) (Wl.lst_code hH), h2, h3⟩
  · by_cases hij : i = j
    · subst hij
      rw [List.getElem?_set_self hi] at hj
      cases hj
      exact ⟨_, hs, a, xs', rfl, upd_same, r', fa, ba, wa⟩
    · rw [List.getElem?_set_ne hij] at hj
      obtain ⟨v, h1, h2⟩ := r.sl j e hj
      refine ⟨v, h1, ?_⟩
      cases e with
      | val d => exact h2
      | own es =>
        obtain ⟨c, ys, rfl, q1, q2⟩ := h2
        have : c ≠ a := fun z => r.ap j i _ _ _ (Ne.symm hij) hj he rfl rfl h1 (by rw [z]; exact hs)
        exact ⟨c, ys, rfl, by rw [upd_ne this]; exact q1, q2⟩
      | dct kvs =>
        obtain ⟨c, rfl, q1, q2, q3⟩ := h2
        have : c ≠ a := fun z => r.ap j i _ _ _ (Ne.symm hij) hj he rfl rfl h1 (by rw [z]; exact hs)
        refine ⟨c, rfl, q1, q2, ?_⟩
        rw [upd_ne this]
        exact q3
      | wdr ws => exact h2
      | scr ns => exact h2
      | tabv d => exact h2
  · have back : ∀ (j : Nat) (e : En), (env.set i (some (.own ds')))[j]? = some (some e) → e.mut = true → ∃ e0 : En, env[j]? = some (some e0) ∧ e0.mut = true := fun j e hj hm => by
      by_cases hij : i = j
      · subst hij
        exact ⟨_, he, rfl⟩
      · rw [List.getElem?_set_ne hij] at hj
        exact ⟨e, hj, hm⟩
    obtain ⟨e1, q1, q2⟩ := back j e h1 m1
    obtain ⟨e2, q3, q4⟩ := back k e' h2 m2
    exact r.ap j k e1 e2 u hjk q1 q3 q2 q4 h3 h4
/-- xs.append(e) -/
def sApp (i : Nat) (m : DM) : SM := fun env => bnd (m env) fun d => match getO env i with
  | some ds => if ds.length < lim then ret (.nx (env.set i (some (.own (ds ++ [d]))))) else fail
  | none => fail
theorem own_at {K : PySem.W.Frag} {F B H : Hp} {W : Option Wl} {σ : L2.St} {env : Env} {n i : Nat} {ds : List PyData} (r : Rl K F B W σ H env n) (h : getO env i = some ds) : ∃ a xs, σ[i]? = some (some (.ref a)) ∧ H a = some (.lst xs) ∧ RpAll K F xs ds := by
  obtain ⟨v, h1, a, xs, rfl, h2, h3, _⟩ := r.sl i _ (getO_some h)
  exact ⟨a, xs, h1, h2, h3⟩
theorem ds_app {i : Nat} {m : DM} (h : PS X st (tDrop (tBM X.K "list" rAppend (tVar i) (tCons (rdE X.K m) tNil)))) : DS X st (sApp i m) := h.imp fun D σ H ⟨F, B, W, env, n, r, n', rl, e, k⟩ => by
  obtain ⟨d, n1, e1, e⟩ := bnd_some e
  cases ho : getO env i with
  | none =>
    simp only [ho, fail] at e
    cases e
  | some ds =>
    simp only [ho] at e
    by_cases hl : ds.length < lim
    · rw [if_pos hl] at e
      obtain ⟨rfl, rfl⟩ := ret_some e
      obtain ⟨a, xs, h1, h2, h3⟩ := own_at rl ho
      refine ⟨_, h1, .inl ⟨rfl, xs, .of h2⟩, F, B, W, env, n, d, _, rl, e1, fun v F1 H1 g rl1 p => ?_⟩
      obtain ⟨a', xs', h1', h2', h3'⟩ := own_at rl1 ho
      rw [h1] at h1'
      cases h1'
      refine ⟨a, xs', v, rfl, rfl, h2', by rw [h3'.len]; exact lim_lt hl, ?_⟩
      exact k σ F1 _ g.f (rl1.updOwn (getO_some ho) h1 (h3'.append (.one p)))
    · rw [if_neg hl] at e
      cases e
/-- xs.extend(ys) of a list -/
def sExt (i : Nat) (m : DM) : SM := fun env => bnd (m env) fun d => match getO env i, d with
  | some ds, .list es => if ds.length + es.length ≤ lim then ret (.nx (env.set i (some (.own (ds ++ es))))) else fail
  | _, _ => fail
theorem ds_ext {i : Nat} {m : DM} (h : PS X st (tDrop (tBM X.K "list" rExtend (tVar i) (tCons (rdE X.K m) tNil)))) : DS X st (sExt i m) := h.imp fun D σ H ⟨F, B, W, env, n, r, n', rl, e, k⟩ => by
  obtain ⟨d, n1, e1, e⟩ := bnd_some e
  obtain ⟨ds, es, ho, rfl, hl, e2⟩ : ∃ ds es, getO env i = some ds ∧ d = .list es ∧ ds.length + es.length ≤ lim ∧ ret (Fl.nx (env.set i (some (.own (ds ++ es))))) n1 = some (r, n') := by
    cases ho : getO env i with
    | none => simp only [ho, fail] at e; cases e
    | some ds =>
      cases d with
      | list es =>
        simp only [ho] at e
        by_cases hl : ds.length + es.length ≤ lim
        · rw [if_pos hl] at e
          exact ⟨ds, es, rfl, rfl, hl, e⟩
        · rw [if_neg hl] at e
          cases e
      | _ => simp only [ho, fail] at e; cases e
  obtain ⟨rfl, rfl⟩ := ret_some e2
  obtain ⟨a, xs, h1, h2, h3⟩ := own_at rl ho
  refine ⟨_, h1, .inl ⟨rfl, xs, .of h2⟩, F, B, W, env, n, _, _, rl, e1, fun v F1 H1 g rl1 p => ?_⟩
  obtain ⟨a', xs', h1', h2', h3'⟩ := own_at rl1 ho
  rw [h1] at h1'
  cases h1'
  obtain ⟨b, zs, rfl, hb, rb⟩ := p.lst_inv
  refine ⟨a, b, xs', zs, rfl, rfl, h2', rl1.zn.ff _ _ hb, by rw [h3'.len, rb.len]; exact lim_le hl, ?_⟩
  exact k σ F1 _ g.f (rl1.updOwn (getO_some ho) h1 (h3'.append rb))
/-- xs[k] = e -/
def sSetI (i : Nat) (mk me : DM) : SM := fun env => bnd (me env) fun d => bnd (mk env) fun j => match getO env i, j with
  | some ds, .int j => (match ixN ds.length j with
    | some k => ret (.nx (env.set i (some (.own (ds.set k d)))))
    | none => fail)
  | _, _ => fail
theorem ds_setI {i : Nat} {mk me : DM} (h : PS X st (tAsg (rdE X.K me) (gSub (tVar i) (rdE X.K mk) rSetL))) : DS X st (sSetI i mk me) := h.imp fun D σ H ⟨F, B, W, env, n, r, n', rl, e, k⟩ => by
  obtain ⟨d, n1, e1, e⟩ := bnd_some e
  obtain ⟨j, n2, e2, e⟩ := bnd_some e
  obtain ⟨ds, j', k', ho, rfl, hk, e3⟩ : ∃ ds j' k', getO env i = some ds ∧ j = .int j' ∧ ixN ds.length j' = some k' ∧ ret (Fl.nx (env.set i (some (.own (ds.set k' d))))) n2 = some (r, n') := by
    cases ho : getO env i with
    | none => simp only [ho, fail] at e; cases e
    | some ds =>
      cases j with
      | int j =>
        simp only [ho] at e
        cases hk : ixN ds.length j with
        | none => simp only [hk, fail] at e; cases e
        | some k' =>
          simp only [hk] at e
          exact ⟨ds, j, k', rfl, rfl, hk, e⟩
      | _ => simp only [ho, fail] at e; cases e
  obtain ⟨rfl, rfl⟩ := ret_some e3
  refine ⟨F, B, W, env, n, d, n1, rl, e1, fun v F1 H1 g rl1 p => ?_⟩
  obtain ⟨a, xs, h1, h2, h3⟩ := own_at rl1 ho
  refine ⟨_, h1, F1, B, W, env, n1, _, _, rl1, e2, fun u F2 H2 g2 rl2 p2 => ?_⟩
  obtain ⟨a', xs', h1', h2', h3'⟩ := own_at rl2 ho
  rw [h1] at h1'
  cases h1'
  refine ⟨a, xs', j', k', rfl, p2.int_inv, h2', by rw [h3'.len]; exact hk, ?_⟩
  exact k σ F2 _ (g.f.trans g2.f) (rl2.updOwn (getO_some ho) h1 (h3'.set (p.mono g2.f) k'))
/-- xs[k] += e, ints -/
theorem get_list : PGet X (rIxL X.K) := by
  intro pins s σ H o i ov iv Q I rx ry h
  obtain ⟨p, xs, i, z, rfl, rfl, hq, he, q⟩ := h
  cases rx
  obtain ⟨t, rfl⟩ := ry
  obtain ⟨its, r, pl, hz⟩ := I.list hq
  obtain ⟨j, h1, h2, h3, h4, h5⟩ := atI_get he
  obtain ⟨w, ew, rw'⟩ := r.get h2
  have hl := r.length
  have hn := line63
  have fin : EP X pins σ Q w s := ⟨z, H, I, rw', q⟩
  by_cases h0 : 0 ≤ i
  · have hj : i.toNat = j := by
      rw [seqIndex_of h0 h5] at h1
      exact Option.some.inj h1
    exact wpAny_getItem_list pl.isList h0 (by omega) (by rw [hj]; simpa using ew) fin
  · have hj : (i + (its.toArray.size : Int)).toNat = j := by
      rw [seqIndex_neg (by omega) h4] at h1
      rw [List.size_toArray, ← hl]
      exact Option.some.inj h1
    refine thn (wpAny_getItem_list_neg (Q := fun r s' => r = w ∧ EP X pins σ Q r s') pl.isList (by omega) (by rw [List.size_toArray] <;> omega) (by omega) (by rw [hj]; simpa using ew) ⟨rfl, fin⟩) fun r s' ⟨e, q⟩ => ?_
    rw [e] at q
    rw [e]
    exact q
def sAugIx (i : Nat) (mk : DM) (f : Int → Int → Int) (me : DM) : SM := fun env => bnd (mk env) fun j => bnd (me env) fun d => match getO env i, j, d with
  | some ds, .int j, .int b => (match ixN ds.length j with
    | some k => (match ds[k]? with
      | some (.int a) => ret (.nx (env.set i (some (.own (ds.set k (.int (f a b)))))))
      | _ => fail)
    | none => fail)
  | _, _, _ => fail
theorem ds_augIx {i : Nat} {mk me : DM} {f : Int → Int → Int} (h : PS X st (tAugS (tVar i) (rdE X.K mk) (rdE X.K me) (rIxL X.K) (ipI f) rSetL)) : DS X st (sAugIx i mk f me) := h.imp fun D σ H ⟨F, B, W, env, n, r, n', rl, e, k⟩ => by
  obtain ⟨j, n1, e1, e⟩ := bnd_some e
  obtain ⟨d, n2, e2, e⟩ := bnd_some e
  obtain ⟨ds, j', b, k', a0, ho, rfl, rfl, hk, ha, e3⟩ : ∃ ds j' b k' a0, getO env i = some ds ∧ j = .int j' ∧ d = .int b ∧ ixN ds.length j' = some k' ∧ ds[k']? = some (.int a0) ∧ ret (Fl.nx (env.set i (some (.own (ds.set k' (.int (f a0 b))))))) n2 = some (r, n') := by
    cases ho : getO env i with
    | none => simp only [ho, fail] at e; cases e
    | some ds =>
      cases j with
      | int j =>
        cases d with
        | int b =>
          simp only [ho] at e
          cases hk : ixN ds.length j with
          | none => simp only [hk, fail] at e; cases e
          | some k' =>
            simp only [hk] at e
            cases ha : ds[k']? with
            | none => simp only [ha, fail] at e; cases e
            | some x =>
              cases x with
              | int a0 =>
                simp only [ha] at e
                exact ⟨ds, j, b, k', a0, rfl, rfl, rfl, hk, ha, e⟩
              | _ => simp only [ha, fail] at e; cases e
        | _ => simp only [ho, fail] at e; cases e
      | _ => simp only [ho, fail] at e; cases e
  obtain ⟨rfl, rfl⟩ := ret_some e3
  obtain ⟨a, xs, h1, h2, h3⟩ := own_at rl ho
  refine ⟨_, h1, F, B, W, env, n, _, n1, rl, e1, fun u F1 H1 g1 rl1 p1 => ?_⟩
  obtain ⟨a1, xs1, z1, z2, z3⟩ := own_at rl1 ho
  rw [h1] at z1
  cases z1
  obtain ⟨v0, q1, q2⟩ := z3.get ha
  refine ⟨_, xs1, j', v0, rfl, p1.int_inv, .of z2, ?_, F1, B, W, env, n1, _, _, rl1, e2, fun v F2 H2 g2 rl2 p2 => ?_⟩
  · unfold atI
    rw [z3.len, hk]
    exact q1
  obtain ⟨a2, xs2, y1, y2, y3⟩ := own_at rl2 ho
  rw [h1] at y1
  cases y1
  refine ⟨a0, b, q2.int_inv, p2.int_inv, _, xs2, j', k', rfl, p1.int_inv, y2, by rw [y3.len]; exact hk, ?_⟩
  exact k σ F2 _ (g1.f.trans g2.f) (rl2.updOwn (getO_some ho) h1 (y3.set (.int _) k'))
/-- xs.pop() -/
def sPop (i : Nat) : SM := fun env => match getO env i with
  | some ds => if ds.length = 0 then fail else ret (.nx (env.set i (some (.own ds.dropLast))))
  | none => fail
theorem ds_pop {i : Nat} (h : PS X st (tDrop (tBM0 X.K "list" rPop (tVar i)))) : DS X st (sPop i) := h.imp fun D σ H ⟨F, B, W, env, n, r, n', rl, e, k⟩ => by
  have e0 : (match getO env i with
    | some ds => if ds.length = 0 then fail else ret (Fl.nx (env.set i (some (.own ds.dropLast))))
    | none => fail) n = some (r, n') := e
  cases ho : getO env i with
  | none =>
    simp only [ho, fail] at e0
    cases e0
  | some ds =>
    simp only [ho] at e0
    by_cases hl : ds.length = 0
    · rw [if_pos hl] at e0
      cases e0
    · rw [if_neg hl] at e0
      obtain ⟨rfl, rfl⟩ := ret_some e0
      obtain ⟨a, xs, h1, h2, h3⟩ := own_at rl ho
      have hx : xs.length ≠ 0 := by rw [h3.len]; exact hl
      refine ⟨_, h1, .inl ⟨rfl, xs, .of h2⟩, a, xs, _, rfl, rfl, h2, List.getElem?_eq_getElem (by omega), ?_⟩
      exact k σ F _ (.refl _) (rl.updOwn (getO_some ho) h1 h3.dropLast)
/-- the list is one's own no more: it is to be read alone -/
def frz (env : Env) (i : Nat) : Env := match getO env i with
  | some ds => env.set i (some (.val (.list ds)))
  | none => env
def sFrz (i : Nat) (s : SM) : SM := fun env => s (frz env i)
theorem Rl.frz {K : PySem.W.Frag} {F B H : Hp} {W : Option Wl} {σ : L2.St} {env : Env} {n : Nat} (i : Nat) (r : Rl K F B W σ H env n) : ∃ F', Same F F' ∧ Rl K F' B W σ H (frz env i) n := by
  unfold DL.frz
  cases ho : getO env i with
  | none => exact ⟨F, .refl _, r⟩
  | some ds =>
    have he := getO_some ho
    obtain ⟨v, h1, a, xs, rfl, h2, h3, fa, ba, wa⟩ := r.sl i _ he
    have hi := (List.getElem?_eq_some_iff.mp he).1
    have s : Same F (upd F a (.lst xs)) := same_new fa
    -- without its name
    have r0 : Rl K F B W σ H (env.set i none) n := by
      refine ⟨r.zn, r.wo, fun j e hj => ?_, fun j k e e' u hjk h1 h2 m1 m2 h3 h4 => ?_, by simp [r.le]⟩
      · by_cases hij : i = j
        · subst hij
          rw [List.getElem?_set_self hi] at hj
          cases hj
        · rw [List.getElem?_set_ne hij] at hj
          exact r.sl j e hj
      · have back : ∀ (j : Nat) (e : En), (env.set i none)[j]? = some (some e) → env[j]? = some (some e) := fun j e hj => by
          by_cases hij : i = j
          · subst hij
            rw [List.getElem?_set_self hi] at hj
            cases hj
          · rw [List.getElem?_set_ne hij] at hj
            exact hj
        exact r.ap j k e e' u hjk (back j e h1) (back k e' h2) m1 m2 h3 h4
    have w := wa
    have o : ∀ (j : Nat) (e : En), (env.set i none)[j]? = some (some e) → e.mut = true → σ[j]? ≠ some (some (.ref a)) := fun j e hj hm z => by
      by_cases hij : i = j
      · subst hij
        rw [List.getElem?_set_self hi] at hj
        cases hj
      · rw [List.getElem?_set_ne hij] at hj
        exact r.ap i j _ _ _ hij he hj rfl hm h1 z
    have r1 := (r0.freeze h2 fa ba w o).set i (.lst upd_same (h3.mono s) : Rp K (upd F a (.lst xs)) (.ref a) (.list ds))
    rw [List.set_set] at r1
    have hσ : σ.set i (some (V.ref a)) = σ := by
      apply List.ext_getElem?
      intro j
      by_cases hij : i = j
      · subst hij
        rw [List.getElem?_set_self (by rw [← r.le]; exact hi), h1]
      · rw [List.getElem?_set_ne hij]
    rw [hσ] at r1
    exact ⟨_, s, r1⟩
theorem ds_frz {i : Nat} {s : SM} (h : DS X st s) : DS X st (sFrz i s) := h.imp fun D σ H ⟨F, B, W, env, n, r, n', rl, e, k⟩ => by
  obtain ⟨F', sf, rl'⟩ := rl.frz i
  exact ⟨F', B, W, _, n, r, n', rl', e, k.mono sf⟩

/-! ### the script -/
def getS (env : Env) (i : Nat) : Option (List Int) := match env[i]? with
  | some (some (.scr ns)) => some ns
  | _ => none
theorem getS_some {env : Env} {i : Nat} {ds : List Int} (h : getS env i = some ds) : env[i]? = some (some (.scr ds)) := by
  unfold getS at h
  split at h
  · cases h; assumption
  · cases h
def dLenS (i : Nat) : DM := fun env => lift (match getS env i with
  | some ns => some (.int (ns.length : Int))
  | none => none)
theorem de_lenS {i : Nat} (h : PE X e (tCB (fun xs H Q => ∃ p ys, xs = [.ref p] ∧ (SqL X.K H p ys ∨ SqT X.K H p ys) ∧ Q (.int ys.length) H) (tCons (tVar i) tNil))) : DE X e (dLenS i) := h.imp fun σ H Q ⟨F, B, W, env, n, d, n', rl, e, k⟩ => by
  obtain ⟨e1, rfl⟩ := lift_some e
  split at e1
  · rename_i ns hs
    cases e1
    obtain ⟨v, h1, a, rfl, h2⟩ := rl.sl i _ (getS_some hs)
    refine ⟨_, h1, a, _, rfl, .inl (rl.zn.ff.seq h2), ?_⟩
    rw [List.length_map]
    exact k _ F H .refl rl (.int _)
  · cases e1
def dIxS (i : Nat) (m : DM) : DM := fun env => bnd (m env) fun d => lift (match getS env i, d with
  | some ns, .int j => (match atI ns j with
    | some v => some (.int v)
    | none => none)
  | _, _ => none)
theorem atI_map {α β : Type} {f : α → β} {xs : List α} {j : Int} {v : α} (h : atI xs j = some v) : atI (xs.map f) j = some (f v) := by
  unfold atI at h ⊢
  rw [List.length_map]
  cases hj : ixN xs.length j with
  | none => rw [hj] at h; cases h
  | some k =>
    rw [hj] at h
    have h : xs[k]? = some v := h
    show (xs.map f)[k]? = some (f v)
    rw [List.getElem?_map, h]
    rfl
theorem de_ixS {i : Nat} {m : DM} (h : PE X e (tOp (rIxL X.K) (tVar i) (rdE X.K m))) : DE X e (dIxS i m) := h.imp fun σ H Q ⟨F, B, W, env, n, d, n', rl, e, k⟩ => by
  obtain ⟨d1, n1, e1, e⟩ := bnd_some e
  obtain ⟨e2, rfl⟩ := lift_some e
  split at e2
  · rename_i ns j hs
    split at e2
    · rename_i v hv
      cases e2
      obtain ⟨v', h1, a, rfl, h2⟩ := rl.sl i _ (getS_some hs)
      refine ⟨_, h1, F, B, W, env, n, _, _, rl, e1, fun u F1 H1 g rl1 p => ?_⟩
      rw [p.int_inv]
      exact ⟨a, _, _, _, rfl, rfl, rl1.zn.ff.seq (g.f.seq h2), atI_map hv, k _ F1 H1 g rl1 (.int _)⟩
    · cases e2
  · cases e2

/-! ### calls that draw -/
def SpW (K : PySem.W.Frag) (k : Nat) (g : Tag → List PyData → OM PyData) : Sp := fun vs H Q _ => ∃ F B w n ds d n' vs', vs = .ref w.self :: vs' ∧ w.tok K ∧ Zn F B H ∧ WOk F B H n (some w) ∧ RpAll K F vs' ds ∧ ds.length = k ∧ g w.tag ds n = some (d, n') ∧
  ∀ v F' H', Same F F' → Zn F' B H' → WOk F' B H' n' (some w) → Rp K F' v d → Q v H'
def getW (env : Env) (i : Nat) : Option Tag := match env[i]? with
  | some (some (.wdr ns)) => some ns
  | _ => none
theorem getW_some {env : Env} {i : Nat} {ds : Tag} (h : getW env i = some ds) : env[i]? = some (some (.wdr ds)) := by
  unfold getW at h
  split at h
  · cases h; assumption
  · cases h
def dCallW (g : Tag → List PyData → OM PyData) (i : Nat) (m : AM) : DM := fun env => bnd (m env) fun ds => match getW env i with
  | some ws => g ws ds
  | none => fail
/-- all that is not frozen but what W changes -/
noncomputable def restW (c : Addr → Prop) (F H : Hp) : Hp := fun a => @ite _ (c a) (Classical.propDecidable _) none (rest F H a)
theorem restW_out {c : Addr → Prop} {F H : Hp} {a : Addr} (n : ¬ c a) : restW c F H a = rest F H a := by
  unfold restW
  rw [if_neg n]
theorem restW_in {c : Addr → Prop} {F H : Hp} {a : Addr} (n : c a) : restW c F H a = none := by
  unfold restW
  rw [if_pos n]
theorem restW_some {c : Addr → Prop} {F H : Hp} {a : Addr} {o : HO} (h : H a = some o) (f : F a = none) (n : ¬ c a) : restW c F H a = some o := by
  rw [restW_out n]
  unfold rest
  rw [f]
  exact h
theorem zn_restW {c : Addr → Prop} {F H : Hp} (s : Same F H) : Zn F (restW c F H) H := by
  have z := zn_rest s
  refine ⟨s, fun a o e => ?_, fun a o e => ?_⟩
  · by_cases n : c a
    · rw [restW_in n] at e
      cases e
    · rw [restW_out n] at e
      exact z.bb a o e
  · by_cases n : c a
    · rw [restW_in n] at e
      cases e
    · rw [restW_out n] at e
      exact z.dj a o e
theorem rd_callW {K : PySem.W.Frag} {i k : Nat} {m : AM} {g : Tag → List PyData → OM PyData} {E : XK} (hk : ∀ env n ds n', m env n = some (ds, n') → ds.length = k) {σ : L2.St} {H : Hp} {Q : VK} (z : rdE K (dCallW g i m) σ H Q) : tCall (SpW K k g) [] E (tCons (tVar i) (rdA K m)) σ H Q := by
  obtain ⟨F, B, W, env, n, d, n', rl, e, kk⟩ := z
  obtain ⟨ds, n1, e1, e⟩ := bnd_some e
  cases hw : getW env i with
  | none =>
    simp only [hw, fail] at e
    cases e
  | some ws =>
    simp only [hw] at e
    obtain ⟨v, h1, w, rfl, rfl, rfl, tk⟩ := rl.sl i _ (getW_some hw)
    refine ⟨_, h1, F, B, some w, env, n, ds, n1, rl, e1, fun vs F1 H1 g1 rl1 r => ?_⟩
    obtain ⟨q1, q2, q3⟩ := rl1.wo
    refine ⟨F1, restW w.ch F1 H1, w, n1, ds, d, n', vs, by rw [List.append_nil], tk, zn_restW rl1.zn.ff, ⟨q1, q2, fun y c => ⟨(q3 y c).1, restW_in c⟩⟩, r, hk _ _ _ _ e1, e, fun v F' H' s z wo p => ?_⟩
    have keep : ∀ a o, H1 a = some o → ¬ w.ch a → H' a = some o := fun a o ha hn => by
      cases f : F1 a with
      | none => exact z.bb a o (restW_some ha f hn)
      | some u =>
        have : u = o := by
          have := rl1.zn.ff a u f
          rw [ha] at this
          exact (Option.some.inj this).symm
        subst this
        exact z.ff a _ (s a _ f)
    have stay : ∀ a o, H1 a = some o → F1 a = none → ¬ w.ch a → F' a = none := fun a o ha f hn => z.dj a o (restW_some ha f hn)
    have g2 : Go (some w) F1 H1 F' H' := ⟨s, fun a o ha hn => keep a o ha (hn w rfl)⟩
    have bw : ∀ a o, B a = some o → ¬ w.ch a := fun a o hb z => by
      rw [(q3 a z).2] at hb
      cases hb
    refine kk v F' H' (g1.trans g2) ⟨⟨z.ff, fun a o hb => keep a o (rl1.zn.bb a o hb) (bw a o hb), fun a o hb => stay a o (rl1.zn.bb a o hb) (rl1.zn.dj a o hb) (bw a o hb)⟩, ?_, fun j e he => ?_, rl1.ap, rl1.le⟩ p
    · exact ⟨wo.1, wo.2.1, fun y c => ⟨(wo.2.2 y c).1, (q3 y c).2⟩⟩
    · obtain ⟨u, h3, h4⟩ := rl1.sl j e he
      refine ⟨u, h3, ?_⟩
      cases e with
      | val d => exact Rp.mono s h4
      | own es =>
        obtain ⟨a, xs, rfl, z1, z2, z3, z4⟩ := h4
        have hn : ¬ w.ch a := z4.2 w rfl
        exact ⟨a, xs, rfl, keep _ _ z1 hn, z2.mono s, stay _ _ z1 z3 hn, z4⟩
      | dct kvs =>
        obtain ⟨a, rfl, z3, z4, z5⟩ := h4
        have hn : ¬ w.ch a := z4.2 w rfl
        rcases z5 with ⟨xs, z5, z6, z7⟩ | ⟨xs, ks, ek, z5, z6, z7⟩
        · exact ⟨a, rfl, stay _ _ z5 z3 hn, z4, .inl ⟨xs, keep _ _ z5 hn, z6, z7.mono s⟩⟩
        · exact ⟨a, rfl, stay _ _ z5 z3 hn, z4, .inr ⟨xs, ks, ek, keep _ _ z5 hn, z6, z7.mono s⟩⟩
      | wdr ws => exact h4
      | scr ns =>
        obtain ⟨a, e, h⟩ := h4
        exact ⟨a, e, s.seq h⟩
      | tabv d => exact ⟨Rp.mono s h4.1, h4.2.mono s⟩
theorem de_callW {i k : Nat} {m : AM} {g : Tag → List PyData → OM PyData} {E : XK} (h : PE X e (tCall (SpW X.K k g) [] E (tCons (tVar i) (rdA X.K m)))) (hk : ∀ env n ds n', m env n = some (ds, n') → ds.length = k) : DE X e (dCallW g i m) := h.imp fun _ _ _ z => rd_callW hk z
end
/-- a def that draws: w is its first name -/
def startW (N : Nat) (ws : Tag) (ds : List PyData) : Env := some (.wdr ws) :: startE (N - 1) ds
def runW (body : SM) (N : Nat) : Tag → List PyData → OM PyData := fun ws ds => bnd (body (startW N ws ds)) fun r => match r with
  | .rt d => ret d
  | .nx _ => ret .none
  | _ => fail
theorem Rl.startW {K : PySem.W.Frag} {F B H : Hp} {N : List Str} {vs : List V} {ds : List PyData} {w : Wl} {n : Nat} (hN : 0 < N.length) (tk : w.tok K) (z : Zn F B H) (wo : WOk F B H n (some w)) (r : RpAll K F vs ds) : Rl K F B (some w) (L2.start N (.ref w.self :: vs)) H (DL.startW N.length w.tag ds) n := by
  have e : L2.start N (.ref w.self :: vs) = some (.ref w.self) :: (vs.map some ++ List.replicate (N.length - 1 - vs.length) none) := by
    unfold L2.start
    rw [List.map_cons, List.length_cons, show N.length - (vs.length + 1) = N.length - 1 - vs.length by omega]
    rfl
  rw [e]
  refine ⟨z, wo, fun i e he => ?_, fun i j e e' v hij h1 h2 m1 m2 => ?_, ?_⟩
  · cases i with
    | zero =>
      cases he
      exact ⟨_, rfl, w, rfl, rfl, rfl, tk⟩
    | succ i =>
      obtain ⟨d, h1, rfl⟩ := startE_some (show (startE (N.length - 1) ds)[i]? = some (some e) from he)
      obtain ⟨x, h2, h3⟩ := r.get h1
      refine ⟨x, ?_, h3⟩
      show (vs.map some ++ List.replicate (N.length - 1 - vs.length) none)[i]? = _
      have hi := (List.getElem?_eq_some_iff.mp h2).1
      rw [List.getElem?_append_left (by simpa using hi), List.getElem?_map, h2]
      rfl
  · exfalso
    have zero : ∀ (j : Nat) (e : En), (DL.startW N.length w.tag ds)[j]? = some (some e) → e.mut = true → j = 0 := fun j e he hm => by
      cases j with
      | zero => rfl
      | succ j =>
        obtain ⟨d, h1, rfl⟩ := startE_some (show (startE (N.length - 1) ds)[j]? = some (some e) from he)
        cases hm
    exact hij ((zero i e h1 m1).trans (zero j e' h2 m2).symm)
  · unfold DL.startW startE
    simp only [List.length_cons, List.length_append, List.length_map, List.length_replicate, r.len]
section
variable {P : Program} {w : World} {K : PySem.W.Frag} {mg : Str → Option Value} {base : Heap}
theorem fnW_ok {x qual : Str} {st : Stmt} {f : Addr} {fd : FuncData} {N ps : List Str} {k k2 nn : Nat} {m : SM} (F : Fun K x qual st f fd) (S : FnScope N ps (defScope st)) (hps : ps.length = k2 + 1) (hnn : N.length = nn)
    (h : ∀ (cdv : Value) (A : Around) (outer : List PySem.Env) (s : Shared) (H : Hp) (E : XK), Room k (A.deeper (envOfC qual (defScope st) s.heap.objs.size f cdv)) → DSs (cxOf CX0 P w K mg base N qual (defScope st) f cdv A outer s H E).nox (defBody st) m) :
    FnOk P w K mg base CX0 (k + 1) f fd ps (SpW K k2 (runW m nn)) := by
  subst hnn
  have hN : 0 < N.length := by
    have := congrArg List.length S.pre
    rw [List.length_take] at this
    omega
  refine F.ok S (fun vs H Q E ⟨F0, B, w, n, ds, d, n', vs', e, _, z, wo, r, hl, _⟩ => by rw [e, List.length_cons, r.len, hl, hps]) fun cdv A outer s H vs Q E hr ⟨F0, B, w0, n, ds, d, n', vs', ev, tk, z, wo, r, hl, e, kk⟩ => ?_
  refine ⟨rdS K m, h cdv A outer s H E hr, ?_⟩
  obtain ⟨q, n1, e1, e⟩ := bnd_some e
  subst ev
  refine ⟨F0, B, some w0, _, n, q, n1, .startW hN tk z wo r, e1, ?_⟩
  cases q with
  | rt d =>
    obtain ⟨rfl, rfl⟩ := ret_some e
    exact fun v F' H' s z' w' p => kk v F' H' s z' w' p
  | nx e2 =>
    obtain ⟨rfl, rfl⟩ := ret_some e
    exact fun σ F' H' s rl => kk .non F' H' s rl.zn rl.wo .non
  | _ => cases e
end
end DL

/-! DL, part h: the dict of the draws, the laws' own defs. -/
namespace DL
open PySem PySem.Spec PyProof.Rows L2
section
variable {X : Cx} {st : Stmt} {e : Expr}
/-- w["at"] += 1 -/
def sInc (i : Nat) : SM := fun env n => match getW env i with
  | some (.draws _) => some (.nx env, n + 1)
  | _ => none
theorem ds_inc {i : Nat} (h : PS X st (sDAug (tVar i) (tC (.str "at")) (tC (.int 1)) rAdd)) : DS X st (sInc i) := h.imp fun D σ H ⟨F, B, W, env, n, r, n', rl, e, k⟩ => by
  unfold sInc at e
  split at e
  · rename_i ws hw
    cases e
    obtain ⟨v, h1, w, rfl, ht, rfl, _⟩ := rl.sl i _ (getW_some hw)
    obtain ⟨wa, wl, wt, rfl⟩ := Wl.tag_draws ht
    obtain ⟨⟨q1, qt⟩, q2, q3⟩ := id rl.wo
    refine ⟨_, h1, wa, .int (n : Int), rfl, .inl ⟨_, .inr ("at" : Str), .inl q1, rfl, rfl⟩, _, 1, rfl, rfl, _, .inl ⟨_, .inr ("at" : Str), q1, rfl, by show 2 < sizeLine; decide, rfl⟩, ?_⟩
    have hp : putK [(.inr ("draws" : Str), V.ref wl), (.inr ("at" : Str), V.int (n : Int))] (Sum.inr ("at" : Str) : Key) (V.int ((n : Int) + 1)) = [(.inr ("draws" : Str), V.ref wl), (.inr ("at" : Str), V.int ((n + 1 : Nat) : Int))] := rfl
    rw [hp]
    obtain ⟨q4, q5⟩ := q3 wa (.inl rfl)
    refine k σ F _ (.refl _) ⟨⟨same_mut rl.zn.ff q4, same_mut rl.zn.bb q5, rl.zn.dj⟩, ⟨⟨upd_same, fun T et => Wl.tab_keep (qt T et) (fun o e => ?_) fun b o e c => ?_⟩, q2, q3⟩, fun j e he => ?_, rl.ap, rl.le⟩
    · obtain ⟨ps, z, _⟩ := qt T et
      rw [upd_ne (show T.1 ≠ wa from fun y => by
        rw [y, q1] at z
        cases z)]
      exact e
    · rw [upd_ne (show b ≠ wa from fun y => by
        rw [y] at e
        exact Wl.dK_code q1 o e c)]
      exact e
    obtain ⟨u, h3, h4⟩ := rl.sl j e he
    refine ⟨u, h3, ?_⟩
    cases e with
    | val d => exact h4
    | own es =>
      obtain ⟨a, xs, rfl, z1, z2⟩ := h4
      have hn : a ≠ wa := fun z => z2.2.2.2 _ rfl (.inl z.symm)
      exact ⟨a, xs, rfl, by rw [upd_ne hn]; exact z1, z2⟩
    | dct kvs =>
      obtain ⟨a, rfl, z3, z4, z5⟩ := h4
      refine ⟨a, rfl, z3, z4, ?_⟩
      rw [upd_ne (show a ≠ wa from fun z => z4.2 _ rfl (.inl z.symm))]
      exact z5
    | wdr ws => exact h4
    | scr ns => exact h4
    | tabv d => exact h4
  · cases e
def dAt (i : Nat) : DM := fun env n => match getW env i with
  | some (.draws _) => some (.int (n : Int), n)
  | _ => none
theorem de_at {i : Nat} (h : PE X e (tDGet (tVar i) (tC (.str "at")))) : DE X e (dAt i) := h.imp fun σ H Q ⟨F, B, W, env, n, d, n', rl, e, k⟩ => by
  unfold dAt at e
  split at e
  · rename_i ws hw
    cases e
    obtain ⟨v, h1, w, rfl, ht, rfl, _⟩ := rl.sl i _ (getW_some hw)
    obtain ⟨wa, wl, wt, rfl⟩ := Wl.tag_draws ht
    obtain ⟨⟨q1, qt⟩, q2, q3⟩ := id rl.wo
    exact ⟨_, h1, wa, .int (n : Int), rfl, .inl ⟨_, .inr ("at" : Str), .inl q1, rfl, rfl⟩, k _ F H .refl rl (.int _)⟩
  · cases e
def dDr (i : Nat) : DM := fun env => lift (match getW env i with
  | some (.draws ws) => some (.list (ws.map PyData.int))
  | _ => none)
theorem de_dr {i : Nat} (h : PE X e (tDGet (tVar i) (tC (.str "draws")))) : DE X e (dDr i) := h.imp fun σ H Q ⟨F, B, W, env, n, d, n', rl, e, k⟩ => by
  obtain ⟨e1, rfl⟩ := lift_some e
  split at e1
  · rename_i ws hw
    cases e1
    obtain ⟨v, h1, w, rfl, ht, rfl, _⟩ := rl.sl i _ (getW_some hw)
    obtain ⟨wa, wl, wt, rfl⟩ := Wl.tag_draws ht
    obtain ⟨⟨q1, qt⟩, q2, q3⟩ := id rl.wo
    exact ⟨_, h1, wa, .ref wl, rfl, .inl ⟨_, .inr ("draws" : Str), .inl q1, rfl, rfl⟩, k _ F H .refl rl (.lst q2 (.ints _))⟩
  · cases e1
end

/-! ### _law_draws -/
def SpD (K : PySem.W.Frag) (f : List Int → List PyData → Option PyData) : Sp := fun vs H Q _ => ∃ F B a ns i d, vs = [.ref a, .int i] ∧ Zn F B H ∧ SqL K F a (ns.map V.int) ∧ f ns [.int i] = some d ∧ ∀ v F' H', Same F F' → Zn F' B H' → Rp K F' v d → Q v H'
def startS (N : Nat) (ns : List Int) (ds : List PyData) : Env := some (.scr ns) :: startE (N - 1) ds
def runD (body : SM) (N : Nat) : List Int → List PyData → Option PyData := fun ns ds => match body (startS N ns ds) 0 with
  | some (.rt d, _) => some d
  | _ => none
section
variable {P : Program} {w : World} {K : PySem.W.Frag} {mg : Str → Option Value} {base : Heap}
theorem fnD_ok {x qual : Str} {st : Stmt} {f : Addr} {fd : FuncData} {N ps : List Str} {k nn : Nat} {m : SM} (F : Fun K x qual st f fd) (S : FnScope N ps (defScope st)) (hps : ps.length = 2) (hnn : N.length = nn)
    (h : ∀ (cdv : Value) (A : Around) (outer : List PySem.Env) (s : Shared) (H : Hp) (E : XK), Room k (A.deeper (envOfC qual (defScope st) s.heap.objs.size f cdv)) → DSs (cxOf CX0 P w K mg base N qual (defScope st) f cdv A outer s H E).nox (defBody st) m) :
    FnOk P w K mg base CX0 (k + 1) f fd ps (SpD K (runD m nn)) := by
  subst hnn
  have hN : 2 ≤ N.length := by
    have := congrArg List.length S.pre
    rw [List.length_take] at this
    omega
  refine F.ok S (fun vs H Q E ⟨F0, B, a, ns, i, d, e, _⟩ => by rw [e, hps]; rfl) fun cdv A outer s H vs Q E hr ⟨F0, B, a, ns, i, d, ev, z, hS, e, kk⟩ => ?_
  refine ⟨rdS K m, h cdv A outer s H E hr, ?_⟩
  subst ev
  unfold runD at e
  split at e
  · rename_i d2 n2 h2
    cases e
    refine ⟨F0, B, none, _, 0, _, _, ?_, h2, fun v F' H' s z' _ p => kk v F' H' s z' p⟩
    have e : L2.start N [.ref a, .int i] = some (.ref a) :: (([V.int i] : List V).map some ++ List.replicate (N.length - 1 - ([V.int i] : List V).length) none) := by
      unfold L2.start
      rw [show N.length - ([V.ref a, V.int i] : List V).length = N.length - 1 - ([V.int i] : List V).length by simp only [List.length_cons, List.length_nil]; omega]
      rfl
    rw [e]
    refine ⟨z, trivial, fun j e he => ?_, fun j k e e' v _ h1 _ m1 => ?_, ?_⟩
    · cases j with
      | zero =>
        cases he
        exact ⟨_, rfl, a, rfl, hS⟩
      | succ j =>
        obtain ⟨d, h1, rfl⟩ := startE_some (show (startE (N.length - 1) [.int i])[j]? = some (some e) from he)
        obtain ⟨x, h2, h3⟩ := (RpAll.one (Rp.int (K := K) (F := F0) i)).get h1
        refine ⟨x, ?_, h3⟩
        show (([V.int i] : List V).map some ++ List.replicate (N.length - 1 - ([V.int i] : List V).length) none)[j]? = _
        have hi := (List.getElem?_eq_some_iff.mp h2).1
        rw [List.getElem?_append_left (by simpa using hi), List.getElem?_map, h2]
        rfl
    · exfalso
      cases j with
      | zero =>
        cases h1
        cases m1
      | succ j =>
        obtain ⟨d, _, rfl⟩ := startE_some (show (startE (N.length - 1) [.int i])[j]? = some (some e) from h1)
        cases m1
    · unfold startS startE
      simp
  · cases e
end
def dCallD (f : List Int → List PyData → Option PyData) (i : Nat) (m : AM) : DM := fun env => bnd (m env) fun ds => lift (match getS env i with
  | some ns => f ns ds
  | none => none)
theorem de_callD {X : Cx} {e : Expr} {i : Nat} {j : Int} {f : List Int → List PyData → Option PyData} {E : XK} (h : PE X e (tCall (SpD X.K f) [] E (tCons (tVar i) (tCons (tC (.int j)) tNil)))) : DE X e (dCallD f i (aCons (dC (.int j)) aNil)) := h.imp fun σ H Q ⟨F, B, W, env, n, d, n', rl, e, kk⟩ => by
  obtain ⟨ds, n1, e1, e⟩ := bnd_some e
  obtain ⟨e3, rfl⟩ := lift_some e
  have : (ds, n') = ([.int j], n) := (Option.some.inj (show some ([PyData.int j], n) = some (ds, n') from e1)).symm
  obtain ⟨rfl, rfl⟩ := Prod.mk.inj this
  cases hs : getS env i with
  | none => simp only [hs] at e3; cases e3
  | some ns =>
    simp only [hs] at e3
    obtain ⟨v, h1, a, rfl, h2⟩ := rl.sl i _ (getS_some hs)
    refine ⟨_, h1, F, rest F H, a, ns, j, d, rfl, zn_rest rl.zn.ff, h2, e3, fun v F' H' s z p => ?_⟩
    have gr := gr_rest rl.zn.ff s z
    exact kk v F' H' (.of gr) (rl.gr gr) p

/-! ### the laws -/
/-- draws as _law_draws makes them -/
structure Dr (ws : List Int) : Prop where
  len : ws.length = 200
  rng : ∀ x ∈ ws, 0 ≤ x ∧ x < 997
/-- _law_draws: the turns -/
def bTurnI : SM := sIf (tOf (dOp gtD (dVar 6) (dC (.int 0))))
      (sSeq (sApp 2 (dOp modD (dCallB intOfD (aCons (dVar 6) aNil)) (dC (.int 997)))) (sAsg (.nm 6) (dOp fdivD (dVar 6) (dC (.int 997))))) sPass
def bTurnA : SM :=
    sSeq (sAsg (.nm 5) (dCallB absD (aCons (dCallB intOfD (aCons (dIxS 0 (dVar 4)) aNil)) aNil)))
    (sSeq (sAsg (.nm 3) (dOp modD (dCallB intOfD (aCons (dOp addD (dOp addD (dOp mulD (dVar 3) (dC (.int 48271))) (dOp modD (dVar 5) (dC (.int 1000003)))) (dVar 4)) aNil)) (dC (.int 65537))))
    (sSeq (sAsg (.nm 6) (dC (.int 0)))
    (sSeq (sIf (tOf (dOp geD (dVar 5) (dOp powD (dC (.int 10)) (dC (.int 18))))) (sAsg (.nm 6) (dVar 5))
      (sSeq (sApp 2 (dOp modD (dCallB intOfD (aCons (dVar 5) aNil)) (dC (.int 997))))
        (sApp 2 (dOp modD (dOp modD (dCallB intOfD (aCons (dOp addD (dOp mulD (dVar 3) (dC (.int 69621))) (dC (.int 5))) aNil)) (dC (.int 65521))) (dC (.int 997))))))
    (sFor (itemsR1 (dC (.int 60))) (.nm 7) bTurnI))))
def bTurnB : SM := sSeq (sAsg (.nm 3) (dOp modD (dCallB intOfD (aCons (dOp addD (dOp addD (dOp mulD (dVar 3) (dC (.int 16807))) (dVar 4)) (dC (.int 1))) aNil)) (dC (.int 65537))))
      (sApp 2 (dOp modD (dCallB intOfD (aCons (dVar 3) aNil)) (dC (.int 997))))
/-- _law_draws -/
def bDraws : SM :=
  sSeq (sAsgF 2 (dDisp aNil)) (sSeq (sAsg (.nm 3) (dC (.int 7)))
  (sSeq (sFor (itemsR1 (dLenS 0)) (.nm 4) bTurnA)
  (sSeq (sFor (itemsR1 (dVar 1)) (.nm 4) bTurnB)
  (sRet (dLst (dSlL (dVarL 2) oNone (oSome (dVar 1))))))))
def fDraws : List Int → List PyData → Option PyData := runD bDraws 8
/-- _law_next -/
def bNext : SM := sSeq (sInc 0) (sSeq (sIf (tOf (dOp gtD (dAt 0) (dCallB lenD (aCons (dDr 0) aNil)))) (sRet (dC (.int 0))) sPass)
  (sRet (dOp modD (dCallB intOfD (aCons (dOp ixD (dDr 0) (dOp subD (dAt 0) (dC (.int 1)))) aNil)) (dVar 1))))
def fNext : Tag → List PyData → OM PyData := runW bNext 2
/-- law, for so many turns of holds -/
def bLaw (turns : Int) (holds : Tag → List PyData → OM PyData) : SM := sSeq (sFor (itemsR1 (dC (.int turns))) (.nm 2) (sIf (tNot (tOf (dCallW holds 1 aNil))) (sRet (dC (.bool false))) sPass)) (sRet (dC (.bool true)))
def SpLaw (K : PySem.W.Frag) (t : Option (Addr × Str)) : Sp := fun vs H Q _ => ∃ (a : Addr) (ns : List Int), vs = [.ref a] ∧ SqL K H a (ns.map V.int) ∧ ns.length ≤ 63 ∧ (∀ T, t = some T → H T.1 = some (.tbl #[])) ∧ ∀ H', Q (.bl true) H'
end DL

/-! DL, part s: how a denotation is reckoned, step by step (for simp). -/
namespace DL
open PySem PySem.Spec PyProof.Rows L2
section
variable {α β : Type}
@[simp] theorem bnd_ret (a : α) (f : α → OM β) : bnd (ret a) f = f a := (rfl)
@[simp] theorem bnd_fail (f : α → OM β) : bnd (fail : OM α) f = fail := (rfl)
@[simp] theorem lift_some_eq (a : α) : lift (some a) = ret a := (rfl)
@[simp] theorem lift_none_eq : lift (none : Option α) = fail := (rfl)
@[simp] theorem ite_ret (c : Prop) [Decidable c] (a b : α) : (if c then ret a else ret b) = ret (if c then a else b) := by split <;> (exact (rfl))
@[simp] theorem ite_int (c : Prop) [Decidable c] (a b : Int) : (if c then PyData.int a else PyData.int b) = .int (if c then a else b) := by split <;> (exact (rfl))
@[simp] theorem ite_boolD (c : Prop) [Decidable c] (a b : Bool) : (if c then PyData.bool a else PyData.bool b) = .bool (if c then a else b) := by split <;> (exact (rfl))
@[simp] theorem ite_someD (c : Prop) [Decidable c] (a b : PyData) : (if c then some a else some b) = some (if c then a else b) := by split <;> (exact (rfl))
theorem ret_ap (a : α) (n : Nat) : ret a n = some (a, n) := (rfl)
theorem bnd_ite (c : Prop) [Decidable c] (x y : OM α) (f : α → OM β) : bnd (if c then x else y) f = if c then bnd x f else bnd y f := by split <;> rfl
theorem lift_ite (c : Prop) [Decidable c] (x y : Option α) : lift (if c then x else y) = if c then lift x else lift y := by split <;> rfl
variable (env : Env) (i j k : Nat) (d x y : PyData) (m a b : DM) (t u : TM) (s r : SM) (ms : AM) (p : Pt)
@[simp] theorem e_C : dC d env = ret d := (rfl)
@[simp] theorem e_Var : dVar i env = lift (getV env i) := (rfl)
@[simp] theorem e_VarL : dVarL i env = lift (getL env i) := (rfl)
@[simp] theorem e_getV : getV env i = (match env[i]? with
  | some (some (.val d)) => some d
  | _ => none) := (rfl)
@[simp] theorem e_getL : getL env i = (match env[i]? with
  | some (some (.val d)) => some d
  | some (some (.own ds)) => some (.list ds)
  | _ => none) := (rfl)
@[simp] theorem e_getO : getO env i = (match env[i]? with
  | some (some (.own ds)) => some ds
  | _ => none) := (rfl)
@[simp] theorem e_getS : getS env i = (match env[i]? with
  | some (some (.scr ds)) => some ds
  | _ => none) := (rfl)
@[simp] theorem e_getW : getW env i = (match env[i]? with
  | some (some (.wdr ds)) => some ds
  | _ => none) := (rfl)
@[simp] theorem e_Op (g : PyData → PyData → Option PyData) : dOp g a b env = bnd (a env) fun x => bnd (b env) fun y => lift (g x y) := (rfl)
@[simp] theorem e_OpF (g : PyData → PyData → Option (List PyData)) : dOpF g a b env = bnd (a env) fun x => bnd (b env) fun y => lift (g x y) := (rfl)
@[simp] theorem e_Un (g : PyData → Option PyData) : dUn g m env = bnd (m env) fun d => lift (g d) := (rfl)
@[simp] theorem e_Lst : dLst ms env = bnd (ms env) fun ds => ret (.list ds) := (rfl)
@[simp] theorem e_tOf : tOf m env = bnd (m env) fun d => lift (match d with
  | .bool b => some b
  | _ => none) := (rfl)
@[simp] theorem e_tAnd : tAnd t u env = bnd (t env) fun b => if b = true then u env else ret false := (rfl)
@[simp] theorem e_tOr : tOr t u env = bnd (t env) fun b => if b = true then ret true else u env := (rfl)
@[simp] theorem e_tNot : tNot t env = bnd (t env) fun b => ret (!b) := (rfl)
@[simp] theorem e_tTrue : tTrue env = ret true := (rfl)
@[simp] theorem e_And : dAnd a b env = bnd (tOf a env) fun c => if c = true then b env else ret (.bool false) := (rfl)
@[simp] theorem e_Or : dOr a b env = bnd (tOf a env) fun c => if c = true then ret (.bool true) else b env := (rfl)
@[simp] theorem e_Not : dNot a env = bnd (tOf a env) fun c => ret (.bool (!c)) := (rfl)
@[simp] theorem e_If : dIf t a b env = bnd (t env) fun c => if c = true then a env else b env := (rfl)
@[simp] theorem e_aNil : aNil env = ret [] := (rfl)
@[simp] theorem e_aCons : aCons m ms env = bnd (m env) fun d => bnd (ms env) fun ds => ret (d :: ds) := (rfl)
@[simp] theorem e_Tup : dTup ms env = bnd (ms env) fun ds => if ds.length ≤ lim then ret (.tuple ds) else fail := (rfl)
@[simp] theorem e_Disp : dDisp ms env = bnd (ms env) fun ds => if ds.length ≤ lim then ret ds else fail := (rfl)
@[simp] theorem e_CallB (g : List PyData → Option PyData) : dCallB g ms env = bnd (ms env) fun ds => lift (g ds) := (rfl)
@[simp] theorem e_CallF (g : List PyData → Option (List PyData)) : dCallF g ms env = bnd (ms env) fun ds => lift (g ds) := (rfl)
@[simp] theorem e_CallW (g : Tag → List PyData → OM PyData) : dCallW g i ms env = bnd (ms env) fun ds => match getW env i with
  | some ws => g ws ds
  | none => fail := (rfl)
@[simp] theorem e_itemsL : itemsL m env = bnd (m env) fun d => lift (match d with
  | .list ds => some ds
  | _ => none) := (rfl)
@[simp] theorem e_itemsT : itemsT m env = bnd (m env) fun d => lift (match d with
  | .tuple ds => some ds
  | _ => none) := (rfl)
@[simp] theorem e_itemsR1 : itemsR1 m env = bnd (m env) fun d => lift (match d with
  | .int j => if -big ≤ j ∧ j ≤ big then some (rangeD 0 j) else none
  | _ => none) := (rfl)
@[simp] theorem e_itemsR2 : itemsR2 a b env = bnd (a env) fun x => bnd (b env) fun y => lift (match x, y with
  | .int i, .int j => if -big ≤ i ∧ i ≤ big ∧ -big ≤ j ∧ j ≤ big then some (rangeD i j) else none
  | _, _ => none) := (rfl)
@[simp] theorem e_Lc (vs : List Nat) : dLc ms p t m vs env = bnd (ms env) fun ds => if ds.length ≤ lim ∧ noMut env vs = true then lcLoop p t m (wipeE env vs) ds else fail := (rfl)
@[simp] theorem e_LenS : dLenS i env = lift (match getS env i with
  | some ns => some (.int (ns.length : Int))
  | none => none) := (rfl)
@[simp] theorem e_IxS : dIxS i m env = bnd (m env) fun d => lift (match getS env i, d with
  | some ns, .int j => (match atI ns j with
    | some v => some (.int v)
    | none => none)
  | _, _ => none) := (rfl)
@[simp] theorem e_oNone : oNone env = ret none := (rfl)
@[simp] theorem e_oSome : oSome m env = bnd (m env) fun d => lift (match d with
  | .int i => some (some i)
  | _ => none) := (rfl)
@[simp] theorem e_SlT (lo hi : OMn) : dSlT m lo hi env = bnd (m env) fun d => bnd (lo env) fun l => bnd (hi env) fun h => lift (match d with
  | .tuple ds => some (.tuple (cutD ds l h))
  | _ => none) := (rfl)
@[simp] theorem e_SlL (lo hi : OMn) : dSlL m lo hi env = bnd (m env) fun d => bnd (lo env) fun l => bnd (hi env) fun h => lift (match d with
  | .list ds => some (cutD ds l h)
  | _ => none) := (rfl)
@[simp] theorem e_Chain (g g' : PyData → PyData → Option PyData) (c : DM) : dChain g g' a b c env = bnd (a env) fun x => bnd (b env) fun y => bnd (lift (g x y)) fun z => match z with
  | .bool true => bnd (c env) fun w => lift (g' y w)
  | .bool false => ret (.bool false)
  | _ => fail := (rfl)
/-! statements -/
@[simp] theorem e_Pass : sPass env = ret (.nx env) := (rfl)
@[simp] theorem e_Brk : sBrk env = ret (.bk env) := (rfl)
@[simp] theorem e_Cnt : sCnt env = ret (.ct env) := (rfl)
@[simp] theorem e_Fail : sFail env = fail := (rfl)
@[simp] theorem e_Seq : sSeq s r env = bnd (s env) fun q => match q with
  | .nx e => r e
  | .ct e => ret (.ct e)
  | .bk e => ret (.bk e)
  | .rt d => ret (.rt d) := (rfl)
@[simp] theorem e_Ret : sRet m env = bnd (m env) fun d => ret (.rt d) := (rfl)
@[simp] theorem e_Drop : sDrop m env = bnd (m env) fun _ => ret (.nx env) := (rfl)
@[simp] theorem e_sIf : sIf t s r env = bnd (t env) fun c => if c = true then s env else r env := (rfl)
@[simp] theorem e_Asg : sAsg p m env = bnd (m env) fun d => match bindP p d env with
  | none => fail
  | some e => ret (.nx e) := (rfl)
@[simp] theorem e_AsgF : sAsgF i ms env = bnd (ms env) fun ds => ret (.nx (env.set i (some (.own ds)))) := (rfl)
@[simp] theorem e_Par : sPar i j ms env = bnd (ms env) fun ds => match ds with
  | [a, b] => ret (.nx ((env.set i (some (.val a))).set j (some (.val b))))
  | _ => fail := (rfl)
@[simp] theorem e_Par3 : sPar3 i j k ms env = bnd (ms env) fun ds => match ds with
  | [a, b, c] => ret (.nx (((env.set i (some (.val a))).set j (some (.val b))).set k (some (.val c))))
  | _ => fail := (rfl)
@[simp] theorem e_AugI (f : Int → Int → Int) : sAugI i f m env = bnd (m env) fun d => match getV env i, d with
  | some (.int a), .int b => ret (.nx (env.set i (some (.val (.int (f a b))))))
  | _, _ => fail := (rfl)
@[simp] theorem e_For : sFor ms p s env = bnd (ms env) fun ds => forLoop p s ds env := (rfl)
@[simp] theorem e_While (n : Nat) : sWhile n t s env = whLoop t s n env := (rfl)
@[simp] theorem e_App : sApp i m env = bnd (m env) fun d => match getO env i with
  | some ds => if ds.length < lim then ret (.nx (env.set i (some (.own (ds ++ [d]))))) else fail
  | none => fail := (rfl)
@[simp] theorem e_Ext : sExt i m env = bnd (m env) fun d => match getO env i, d with
  | some ds, .list es => if ds.length + es.length ≤ lim then ret (.nx (env.set i (some (.own (ds ++ es))))) else fail
  | _, _ => fail := (rfl)
@[simp] theorem e_Pop : sPop i env = (match getO env i with
  | some ds => if ds.length = 0 then fail else ret (.nx (env.set i (some (.own ds.dropLast))))
  | none => fail) := (rfl)
@[simp] theorem e_Frz : sFrz i s env = s (frz env i) := (rfl)
@[simp] theorem e_frz : frz env i = (match getO env i with
  | some ds => env.set i (some (.val (.list ds)))
  | none => env) := (rfl)
@[simp] theorem e_bindNm : bindP (.nm i) d env = some (env.set i (some (.val d))) := (rfl)
@[simp] theorem e_bindTp (ps : List Pt) (ds : List PyData) : bindP (.tp ps) (.tuple ds) env = bindPs ps ds env := (rfl)
@[simp] theorem e_bindNil : bindPs [] [] env = some env := (rfl)
@[simp] theorem e_bindCons (ps : List Pt) (ds : List PyData) : bindPs (p :: ps) (d :: ds) env = (match bindP p d env with
  | none => none
  | some e => bindPs ps ds e) := (rfl)
@[simp] theorem e_wipeNil : wipeE env [] = env := (rfl)
@[simp] theorem e_wipeCons (vs : List Nat) : wipeE env (i :: vs) = (wipeE env vs).set i none := (rfl)
@[simp] theorem e_noMut (vs : List Nat) : noMut env vs = vs.all fun i => match env[i]? with
  | some (some e) => !e.mut
  | _ => true := (rfl)
@[simp] theorem mut_val : (En.val d).mut = false := (rfl)
@[simp] theorem mut_scr (ns : List Int) : (En.scr ns).mut = false := (rfl)
@[simp] theorem mut_own (ns : List PyData) : (En.own ns).mut = true := (rfl)
@[simp] theorem mut_wdr (ns : Tag) : (En.wdr ns).mut = true := (rfl)
/-! operations -/
variable (v w : Int)
@[simp] theorem v_add : addD (.int v) (.int w) = some (.int (v + w)) := (rfl)
@[simp] theorem v_sub : subD (.int v) (.int w) = some (.int (v - w)) := (rfl)
@[simp] theorem v_mul : mulD (.int v) (.int w) = if (-18446744073709551616 < v ∧ v < 18446744073709551616) ∨ (-18446744073709551616 < w ∧ w < 18446744073709551616) then some (.int (v * w)) else none := by
  simp [mulD, intD]
@[simp] theorem v_fdiv : fdivD (.int v) (.int w) = if 0 < w ∧ w < 1073741824 then some (.int (v / w)) else none := by simp [fdivD, intD]
@[simp] theorem v_mod : modD (.int v) (.int w) = if 0 < w then some (.int (v % w)) else none := by simp [modD, intD]
@[simp] theorem v_lt : ltD (.int v) (.int w) = some (.bool (decide (v < w))) := (rfl)
@[simp] theorem v_le : leD (.int v) (.int w) = some (.bool (decide (v ≤ w))) := (rfl)
@[simp] theorem v_gt : gtD (.int v) (.int w) = some (.bool (decide (w < v))) := (rfl)
@[simp] theorem v_ge : geD (.int v) (.int w) = some (.bool (decide (w ≤ v))) := (rfl)
@[simp] theorem v_neg : negD (.int v) = some (.int (-v)) := (rfl)
@[simp] theorem v_eqI : eqD (.int v) (.int w) = some (.bool (decide (v = w))) := by
  have : eqD (.int v) (.int w) = some (.bool (v == w)) := (rfl)
  rw [this, Bool.beq_eq_decide_eq]
@[simp] theorem v_neI : neD (.int v) (.int w) = some (.bool (!decide (v = w))) := by
  have : neD (.int v) (.int w) = some (.bool (!(v == w))) := (rfl)
  rw [this, Bool.beq_eq_decide_eq]
@[simp] theorem v_pow : powD (.int v) (.int w) = if 0 ≤ w ∧ w ≤ 1000000 ∧ v.natAbs < 2 ^ 64 then some (.int (v ^ w.toNat)) else none := by
  simp [powD, intD, and_assoc]
@[simp] theorem v_arg1 (g : PyData → Option PyData) : arg1 g [d] = g d := (rfl)
@[simp] theorem v_arg2 (g : PyData → PyData → Option PyData) : arg2 g [x, y] = g x y := (rfl)
@[simp] theorem v_intI : intOfD [.int v] = some (.int v) := (rfl)
@[simp] theorem v_intB (c : Bool) : intOfD [.bool c] = some (.int (if c = true then 1 else 0)) := (rfl)
@[simp] theorem v_abs : absD [.int v] = some (.int (if v < 0 then -v else v)) := (rfl)
@[simp] theorem v_lenL (ds : List PyData) : lenD [.list ds] = some (.int (ds.length : Int)) := (rfl)
@[simp] theorem v_lenT (ds : List PyData) : lenD [.tuple ds] = some (.int (ds.length : Int)) := (rfl)
@[simp] theorem v_ixL (ds : List PyData) : ixD (.list ds) (.int v) = atI ds v := (rfl)
@[simp] theorem v_ixT (ds : List PyData) : ixD (.tuple ds) (.int v) = atI ds v := (rfl)
@[simp] theorem v_is (d : PyData) : isD d .none = some (.bool (isNone d)) := (rfl)
@[simp] theorem v_isnt (d : PyData) : isntD d .none = some (.bool (!isNone d)) := (rfl)
@[simp] theorem v_max2 : maxD [.int v, .int w] = some (.int (if w > v then w else v)) := (rfl)
@[simp] theorem v_min2 : minD [.int v, .int w] = some (.int (if w < v then w else v)) := (rfl)
@[simp] theorem isNone_int : isNone (.int v) = false := (rfl)
@[simp] theorem isNone_non : isNone .none = true := (rfl)
@[simp] theorem isNone_tup (ds : List PyData) : isNone (.tuple ds) = false := (rfl)
@[simp] theorem isNone_str (z : Str) : isNone (.str z) = false := (rfl)
end
end DL

/-! DL, part i: constants of the top, comprehensions under a name, the draws' values, the law's frame. -/
namespace DL
open PySem PySem.Spec PyProof.Rows L2
/-- a constant of the module, by its datum -/
def KC (K : PySem.W.Frag) (mg : Str → Option Value) (x : Str) (d : PyData) : Prop := ∃ u v, mg x = some u ∧ RelV v u ∧ ∀ F, Rp K F v d
theorem de_glob {X : Cx} {x : Str} {d : PyData} {pos : Pos} (hg : Gl X x) (h : KC X.K X.mg x d) (hd : (x == ("__debug__" : Str)) = false := by decide) : DE X (.Name x pos) (dC d) := by
  obtain ⟨u, v, h1, h2, h3⟩ := h
  exact de_c (pe_glob hg h1 h2 hd) h3
section
variable {X : Cx} {st : Stmt}
theorem ds_asgLcF {src : AM} {p : Pt} {t : TM} {m : DM} {vs : List Nat} {i : Nat} (h : PS X st (tAsg (tLc (rdI X.K src) (gOf X.K p) (rdT X.K t) (rdE X.K m) vs) (gName i))) (hp : ∀ i ∈ p.slots, i ∈ vs := by decide) : DS X st (sAsgF i (dLc src p t m vs)) :=
  ds_asgF (h.imp fun D σ H w => rd_lc hp w)
theorem rd_lst {K : PySem.W.Frag} {m : AM} {σ : L2.St} {H : Hp} {Q : VK} (h : rdE K (dLst m) σ H Q) : rdF K m σ H Q := by
  obtain ⟨F, B, W, env, n, d, n', rl, e, k⟩ := h
  obtain ⟨ds, n1, e1, e2⟩ := bnd_some e
  obtain ⟨rfl, rfl⟩ := ret_some e2
  refine ⟨F, B, W, env, n, ds, _, rl, e1, fun p xs F' H' s r hp h' f a => ?_⟩
  exact k _ _ _ (s.trans ⟨same_new f, fun _ _ e _ => e⟩) (r.freeze h' f (same_none rl.zn.bb hp) (rl.wo.ne hp) (rl.mut_ne hp)) (.lst upd_same (a.mono (same_new f)))
theorem ds_asgLc {src : AM} {p : Pt} {t : TM} {m : DM} {vs : List Nat} {i : Nat} (h : PS X st (tAsg (tLc (rdI X.K src) (gOf X.K p) (rdT X.K t) (rdE X.K m) vs) (gName i))) (hp : ∀ i ∈ p.slots, i ∈ vs := by decide) : DS X st (sAsg (.nm i) (dLst (dLc src p t m vs))) :=
  ds_asg (h.imp fun D σ H w => rd_lc hp (rd_lst w))
end

theorem bnd_of {α β : Type} {m : OM α} {f : α → OM β} {n n' : Nat} {a : α} (h : m n = some (a, n')) : bnd m f n = f a n' := by
  unfold bnd
  rw [h]
/-! ### loops by an invariant -/
theorem forLoop_inv {p : Pt} {s : SM} {n : Nat} : ∀ {ds : List PyData} {env : Env} (I : Nat → Env → Prop) (h0 : I 0 env) (hs : ∀ (i : Nat) (d : PyData) (e : Env), ds[i]? = some d → I i e → ∃ e1 e2, bindP p d e = some e1 ∧ s e1 n = some (.nx e2, n) ∧ I (i + 1) e2),
    ∃ e', forLoop p s ds env n = some (.nx e', n) ∧ I ds.length e'
  | [], env, I, h0, _ => ⟨env, rfl, h0⟩
  | d :: ds, env, I, h0, hs => by
    obtain ⟨e1, e2, h1, h2, h3⟩ := hs 0 d env rfl h0
    obtain ⟨e', h4, h5⟩ := forLoop_inv (ds := ds) (env := e2) (fun i => I (i + 1)) h3 fun i d e hd hi => hs (i + 1) d e hd hi
    refine ⟨e', ?_, h5⟩
    simp only [forLoop, h1, bnd, h2]
    exact h4
/-- .. where the draws go on -/
theorem forLoop_invN {p : Pt} {s : SM} : ∀ {ds : List PyData} {env : Env} {n : Nat} (I : Env → Prop) (h0 : I env) (hs : ∀ (d : PyData) (e : Env) (n : Nat), d ∈ ds → I e → ∃ e1 e2 n', bindP p d e = some e1 ∧ s e1 n = some (.nx e2, n') ∧ I e2),
    ∃ e' n', forLoop p s ds env n = some (.nx e', n') ∧ I e'
  | [], env, n, I, h0, _ => ⟨env, n, rfl, h0⟩
  | d :: ds, env, n, I, h0, hs => by
    obtain ⟨e1, e2, n1, h1, h2, h3⟩ := hs d env n List.mem_cons_self h0
    obtain ⟨e', n', h4, h5⟩ := forLoop_invN (ds := ds) (env := e2) (n := n1) I h3 fun d e n hd hi => hs d e n (List.mem_cons_of_mem _ hd) hi
    refine ⟨e', n', ?_, h5⟩
    simp only [forLoop, h1, bnd, h2]
    exact h4

/-! ### what _law_draws gives -/
def InR (ws : List Int) : Prop := ∀ x ∈ ws, 0 ≤ x ∧ x < 997
theorem InR.snoc {ws : List Int} {x : Int} (h : InR ws) (h0 : 0 ≤ x) (h1 : x < 997) : InR (ws ++ [x]) := fun y hy => by
  rcases List.mem_append.mp hy with hy | hy
  · exact h y hy
  · rw [List.mem_singleton.mp hy]
    exact ⟨h0, h1⟩
theorem map_snoc (ws : List Int) (x : Int) : ws.map PyData.int ++ [.int x] = (ws ++ [x]).map PyData.int := by simp
def InvA (ns : List Int) (m : Nat) (env : Env) : Prop := ∃ ws mixed x4 x5 x6 x7, env = [some (.scr ns), some (.val (.int 200)), some (.own (ws.map PyData.int)), some (.val (.int mixed)), x4, x5, x6, x7] ∧ InR ws ∧ ws.length ≤ m ∧ 0 ≤ mixed ∧ mixed < 65537
theorem atI_at {α : Type} {xs : List α} {i : Nat} (h : i < xs.length) : atI xs (i : Int) = some xs[i] := atI_nat (List.getElem?_eq_getElem h)
theorem draws_inner (ns : List Int) (ws : List Int) (mixed : Int) (x4 x5 : Option En) (rest : Int) (x7 : Option En) (n m : Nat) (hr : InR ws) (hl : ws.length ≤ m) (hm : m ≤ 10000) (h0 : 0 ≤ mixed) (h1 : mixed < 65537) :
    ∃ e', sFor (itemsR1 (dC (.int 60))) (.nm 7) bTurnI [some (.scr ns), some (.val (.int 200)), some (.own (ws.map PyData.int)), some (.val (.int mixed)), x4, x5, some (.val (.int rest)), x7] n = some (.nx e', n) ∧ InvA ns (m + 60) e' := by
  have h60 : itemsR1 (dC (.int 60)) [some (.scr ns), some (.val (.int 200)), some (.own (ws.map PyData.int)), some (.val (.int mixed)), x4, x5, some (.val (.int rest)), x7] = ret (rangeD 0 60) := by
    simp [big]
  rw [e_For, h60, bnd_ret]
  obtain ⟨e', h2, h3⟩ := forLoop_inv (p := .nm 7) (n := n) (ds := rangeD 0 60) (s := bTurnI)
    (env := [some (.scr ns), some (.val (.int 200)), some (.own (ws.map PyData.int)), some (.val (.int mixed)), x4, x5, some (.val (.int rest)), x7])
    (fun i env => ∃ ws rest x7, env = [some (.scr ns), some (.val (.int 200)), some (.own (ws.map PyData.int)), some (.val (.int mixed)), x4, x5, some (.val (.int rest)), x7] ∧ InR ws ∧ ws.length ≤ m + i)
    ⟨ws, rest, x7, rfl, hr, hl⟩ fun i d e hd ⟨ws, rest, x7, he, hr, hl⟩ => by
      have hi : i < 60 := by
        have := (List.getElem?_eq_some_iff.mp hd).1
        rwa [rangeD_len] at this
      subst he
      by_cases hp : 0 < rest
      · refine ⟨_, [some (.scr ns), some (.val (.int 200)), some (.own ((ws ++ [rest % 997]).map PyData.int)), some (.val (.int mixed)), x4, x5, some (.val (.int (rest / 997))), some (.val d)], rfl, ?_, _, _, _, rfl, hr.snoc (Int.emod_nonneg _ (by decide)) (Int.emod_lt_of_pos _ (by decide)), by simp; omega⟩
        have hw : ws.length < lim := by
          unfold lim
          omega
        unfold bTurnI
        simp [hp, hw, ret_ap]
      · refine ⟨_, [some (.scr ns), some (.val (.int 200)), some (.own (ws.map PyData.int)), some (.val (.int mixed)), x4, x5, some (.val (.int rest)), some (.val d)], rfl, ?_, _, _, _, rfl, hr, by omega⟩
        unfold bTurnI
        simp [hp, ret_ap]
  obtain ⟨ws, rest, x7, rfl, hr, hl⟩ := h3
  exact ⟨_, h2, ws, mixed, _, _, _, _, rfl, hr, by rw [rangeD_len] at hl; exact hl, h0, h1⟩
theorem draws_turn (ns : List Int) (hn : ns.length ≤ 63) (i : Nat) (hi : i < ns.length) (e : Env) (n : Nat) (h : InvA ns (62 * i) e) :
    ∃ e1 e2, bindP (.nm 4) (.int (0 + (i : Int))) e = some e1 ∧ bTurnA e1 n = some (.nx e2, n) ∧ InvA ns (62 * (i + 1)) e2 := by
  obtain ⟨ws, mixed, x4, x5, x6, x7, rfl, hr, hl, h0, h1⟩ := h
  generalize hc : (if ns[i] < 0 then -ns[i] else ns[i]) = cell
  generalize hm : (mixed * 48271 + cell % 1000003 + (i : Int)) % 65537 = mix
  have hm0 : 0 ≤ mix := by rw [← hm]; exact Int.emod_nonneg _ (by decide)
  have hm1 : mix < 65537 := by rw [← hm]; exact Int.emod_lt_of_pos _ (by decide)
  have hat : atI ns (i : Int) = some ns[i] := atI_at hi
  have l1 : ws.length < lim := by
    unfold lim
    omega
  have l2 : ws.length + 1 < lim := by
    unfold lim
    omega
  have ex : ∃ ws' rest, InR ws' ∧ ws'.length ≤ ws.length + 2 ∧ bTurnA [some (.scr ns), some (.val (.int 200)), some (.own (ws.map PyData.int)), some (.val (.int mixed)), some (.val (.int (0 + (i : Int)))), x5, x6, x7] =
      sFor (itemsR1 (dC (.int 60))) (.nm 7) bTurnI [some (.scr ns), some (.val (.int 200)), some (.own (ws'.map PyData.int)), some (.val (.int mix)), some (.val (.int (0 + (i : Int)))), some (.val (.int cell)), some (.val (.int rest)), x7] := by
    unfold bTurnA
    generalize sFor (itemsR1 (dC (.int 60))) (.nm 7) bTurnI = inner
    by_cases hb : (1000000000000000000 : Int) ≤ cell
    · refine ⟨ws, cell, hr, by omega, ?_⟩
      simp [hat, hc, hm, hb]
    · refine ⟨ws ++ [cell % 997, (mix * 69621 + 5) % 65521 % 997], 0, ?_, by simp, ?_⟩
      · intro x hx
        rcases List.mem_append.mp hx with hx | hx
        · exact hr x hx
        · simp only [List.mem_cons, List.not_mem_nil, or_false] at hx
          rcases hx with rfl | rfl
          · exact ⟨Int.emod_nonneg _ (by decide), Int.emod_lt_of_pos _ (by decide)⟩
          · exact ⟨Int.emod_nonneg _ (by decide), Int.emod_lt_of_pos _ (by decide)⟩
      · simp [hat, hc, hm, hb, l1, l2]
  obtain ⟨ws', rest, q1, q2, q3⟩ := ex
  obtain ⟨e', q4, q5⟩ := draws_inner ns ws' mix (some (.val (.int (0 + (i : Int))))) (some (.val (.int cell))) rest x7 n (62 * i + 2) q1 (by omega) (by omega) hm0 hm1
  refine ⟨_, e', rfl, (congrFun q3 n).trans q4, ?_⟩
  obtain ⟨ws, mixed, x4, x5, x6, x7, he, hr, hl, h0, h1⟩ := q5
  exact ⟨ws, mixed, x4, x5, x6, x7, he, hr, by omega, h0, h1⟩
theorem rangeD_at {lo hi : Int} {i : Nat} {d : PyData} (h : (rangeD lo hi)[i]? = some d) : d = .int (lo + (i : Int)) ∧ (i : Int) < hi - lo := by
  have hi' := (List.getElem?_eq_some_iff.mp h).1
  rw [rangeD_get hi'] at h
  rw [rangeD_len] at hi'
  exact ⟨(Option.some.inj h).symm, by omega⟩
theorem draws_ok (ns : List Int) (hn : ns.length ≤ 63) : ∃ ws, fDraws ns [.int 200] = some (.list (ws.map PyData.int)) ∧ Dr ws := by
  obtain ⟨e', h1, h2⟩ := forLoop_inv (p := .nm 4) (n := 0) (s := bTurnA) (ds := rangeD 0 (ns.length : Int)) (env := [some (.scr ns), some (.val (.int 200)), some (.own []), some (.val (.int 7)), none, none, none, none])
    (fun i e => InvA ns (62 * i) e) ⟨[], 7, none, none, none, none, rfl, fun _ h => absurd h (by simp), Nat.zero_le _, by decide, by decide⟩ (fun i d e hd h => by
      obtain ⟨rfl, hi⟩ := rangeD_at hd
      exact draws_turn ns hn i (by omega) e 0 h)
  rw [rangeD_len] at h2
  obtain ⟨ws, mixed, x4, x5, x6, x7, rfl, hr, hl, h0, h1'⟩ := h2
  obtain ⟨e2, h3, h4⟩ := forLoop_inv (p := .nm 4) (n := 0) (s := bTurnB) (ds := rangeD 0 200) (env := [some (.scr ns), some (.val (.int 200)), some (.own (ws.map PyData.int)), some (.val (.int mixed)), x4, x5, x6, x7])
    (fun i e => ∃ ws' mixed x4, e = [some (.scr ns), some (.val (.int 200)), some (.own (ws'.map PyData.int)), some (.val (.int mixed)), x4, x5, x6, x7] ∧ InR ws' ∧ ws'.length = ws.length + i ∧ 0 ≤ mixed ∧ mixed < 65537)
    ⟨ws, mixed, x4, rfl, hr, rfl, h0, h1'⟩ (fun i d e hd ⟨ws', mixed, x4, he, hr, hl2, h0, h1⟩ => by
      obtain ⟨rfl, hi⟩ := rangeD_at hd
      subst he
      have l1 : ws'.length < lim := by
        unfold lim
        omega
      refine ⟨_, _, rfl, ?_, ws' ++ [(mixed * 16807 + (i : Int) + 1) % 65537 % 997], (mixed * 16807 + (i : Int) + 1) % 65537, some (.val (.int (0 + (i : Int)))), rfl, hr.snoc (Int.emod_nonneg _ (by decide)) (Int.emod_lt_of_pos _ (by decide)), by simp; omega, Int.emod_nonneg _ (by decide), Int.emod_lt_of_pos _ (by decide)⟩
      unfold bTurnB
      simp [l1, ret_ap])
  obtain ⟨ws', mixed', x4', rfl, hr', hl', _, _⟩ := h4
  rw [rangeD_len] at hl'
  refine ⟨ws'.take 200, ?_, ⟨by rw [List.length_take]; omega, fun x hx => hr' x (List.mem_of_mem_take hx)⟩⟩
  have hb : -big ≤ (ns.length : Int) ∧ (ns.length : Int) ≤ big := by
    unfold big
    omega
  have hcut : cutD (ws'.map PyData.int) none (some 200) = (ws'.take 200).map PyData.int := by
    unfold cutD
    rw [show HT.sIx (ws'.map PyData.int).length 0 none = 0 from rfl, List.drop_zero, Nat.sub_zero, show (200 : Int) = ((200 : Nat) : Int) from rfl, HT.sIx_nat, List.length_map, Nat.min_eq_left (by omega), List.map_take]
  unfold fDraws runD
  have : bDraws (startS 8 ns [.int 200]) 0 = some (.rt (.list ((ws'.take 200).map PyData.int)), 0) := by
    rw [← hcut]
    show bDraws [some (.scr ns), some (.val (.int 200)), none, none, none, none, none, none] 0 = _
    have e0 : bDraws [some (.scr ns), some (.val (.int 200)), none, none, none, none, none, none] = bnd (forLoop (.nm 4) bTurnA (rangeD 0 (ns.length : Int)) [some (.scr ns), some (.val (.int 200)), some (.own []), some (.val (.int 7)), none, none, none, none]) fun q => match q with
        | .nx e => (sSeq (sFor (itemsR1 (dVar 1)) (.nm 4) bTurnB) (sRet (dLst (dSlL (dVarL 2) oNone (oSome (dVar 1)))))) e
        | .ct e => ret (.ct e)
        | .bk e => ret (.bk e)
        | .rt d => ret (.rt d) := by
      unfold bDraws
      rw [e_Seq, e_AsgF, e_Disp, e_aNil, bnd_ret, if_pos (by decide), bnd_ret, bnd_ret]
      dsimp only
      rw [e_Seq, e_Asg, e_C, bnd_ret, e_bindNm]
      dsimp only
      rw [bnd_ret]
      dsimp only
      rw [e_Seq, e_For, e_itemsR1, e_LenS]
      simp only [e_getS, List.set_cons_succ, List.set_cons_zero, List.getElem?_cons_zero, lift_some_eq, bnd_ret]
      rw [if_pos hb, lift_some_eq, bnd_ret]
      try rfl
    rw [e0, bnd_of h1]
    dsimp only
    rw [e_Seq, e_For]
    have e1 : itemsR1 (dVar 1) [some (.scr ns), some (.val (.int 200)), some (.own (ws.map PyData.int)), some (.val (.int mixed)), x4, x5, x6, x7] = ret (rangeD 0 200) := by
      simp [big]
    rw [e1, bnd_ret, bnd_of h3]
    simp [ret_ap]
  rw [this]
end DL

/-! DL, part j: a draw's value; the law. -/
namespace DL
open PySem PySem.Spec PyProof.Rows L2
@[simp] theorem bnd_assoc {α β γ : Type} (m : OM α) (f : α → OM β) (g : β → OM γ) : bnd (bnd m f) g = bnd m fun a => bnd (f a) g := by
  funext n
  unfold bnd
  cases m n with
  | none => rfl
  | some p => rfl
/-- the n-th draw, below m -/
def nx (ws : List Int) (n : Nat) (m : Int) : Int := if n < ws.length then ws.getD n 0 % m else 0
theorem nx_rng {ws : List Int} (h : Dr ws) (n : Nat) {m : Int} (hm : 0 < m) : 0 ≤ nx ws n m ∧ nx ws n m < m ∧ nx ws n m < 997 := by
  unfold nx
  split
  · rename_i hn
    have hx : ws.getD n 0 ∈ ws := by
      rw [List.getD_eq_getElem?_getD, List.getElem?_eq_getElem hn]
      exact List.getElem_mem hn
    obtain ⟨h1, h2⟩ := h.rng _ hx
    have h3 := Int.emod_nonneg (ws.getD n 0) (show m ≠ 0 by omega)
    have h4 := Int.emod_lt_of_pos (ws.getD n 0) hm
    have h5 := Int.mul_ediv_add_emod (ws.getD n 0) m
    have h6 := Int.mul_nonneg (show (0 : Int) ≤ m by omega) (Int.ediv_nonneg h1 (show (0 : Int) ≤ m by omega))
    omega
  · omega
theorem fNext_eq {ws : List Int} (n : Nat) {m : Int} (hm : 0 < m) : fNext (.draws ws) [.int m] n = some (.int (nx ws n m), n + 1) := by
  have hN : startW 2 (.draws ws) [.int m] = [some (.wdr (.draws ws)), some (.val (.int m))] := rfl
  unfold fNext runW bNext
  rw [hN]
  have hi : sInc 0 [some (.wdr (.draws ws)), some (.val (.int m))] n = some (.nx [some (.wdr (.draws ws)), some (.val (.int m))], n + 1) := rfl
  have ha : dAt 0 [some (.wdr (.draws ws)), some (.val (.int m))] (n + 1) = some (.int ((n + 1 : Nat) : Int), n + 1) := rfl
  have hd : dDr 0 [some (.wdr (.draws ws)), some (.val (.int m))] = ret (.list (ws.map PyData.int)) := rfl
  rw [e_Seq, bnd_assoc, bnd_of hi]
  dsimp only
  rw [e_Seq, e_sIf, e_tOf, e_Op]
  simp only [bnd_assoc]
  rw [bnd_of ha]
  simp only [e_CallB, e_aCons, e_aNil, hd, bnd_ret, v_lenL, lift_some_eq, v_gt, List.length_map, bnd_assoc]
  unfold nx
  by_cases hn : n < ws.length
  · have h1 : ¬ (ws.length : Int) < ((n + 1 : Nat) : Int) := by omega
    rw [if_pos hn, decide_eq_false h1]
    simp only [Bool.false_eq_true, if_false, e_Pass, bnd_ret]
    have hx : atI (ws.map PyData.int) (n : Int) = some (.int (ws.getD n 0)) := by
      refine atI_nat ?_
      rw [List.getElem?_map, List.getD_eq_getElem?_getD, List.getElem?_eq_getElem hn]
      rfl
    simp only [e_Ret, e_Op, e_CallB, e_aCons, e_aNil, hd, bnd_ret, bnd_assoc]
    rw [bnd_of ha]
    simp [hx, hm, ret_ap]
  · have h1 : (ws.length : Int) < ((n + 1 : Nat) : Int) := by omega
    rw [if_neg hn, decide_eq_true h1]
    simp [ret_ap]
theorem bnd_next {α : Type} {ws : List Int} {n : Nat} {m : Int} {f : PyData → OM α} (hm : 0 < m) : bnd (fNext (.draws ws) [.int m]) f n = f (.int (nx ws n m)) (n + 1) := bnd_of (fNext_eq n hm)

/-! ### the law -/
/-- _law_holds answers True, whatever the draws -/
def HoldOk (g : Tag → List PyData → OM PyData) : Prop := ∀ ws, Dr ws → ∀ n, ∃ n', g (.draws ws) [] n = some (.bool true, n')
theorem bLaw_ok {turns : Int} (ht : 0 ≤ turns ∧ turns ≤ 1000) {g : Tag → List PyData → OM PyData} (h : HoldOk g) {ws : List Int} (hd : Dr ws) (ns : List Int) : ∃ n', bLaw turns g [some (.scr ns), some (.wdr (.draws ws)), none] 0 = some (.rt (.bool true), n') := by
  obtain ⟨e', n', h1, h2⟩ := forLoop_invN (p := .nm 2) (n := 0) (s := sIf (tNot (tOf (dCallW g 1 aNil))) (sRet (dC (.bool false))) sPass) (ds := rangeD 0 turns) (env := [some (.scr ns), some (.wdr (.draws ws)), none])
    (fun e => ∃ x, e = [some (.scr ns), some (.wdr (.draws ws)), x]) ⟨none, rfl⟩ (fun d e n hm ⟨x, he⟩ => by
      subst he
      obtain ⟨n', hn⟩ := h ws hd n
      refine ⟨_, _, n', rfl, ?_, some (.val d), rfl⟩
      rw [e_sIf, e_tNot, e_tOf, e_CallW, e_aNil, bnd_ret]
      have hw : getW (List.set [some (.scr ns), some (.wdr (.draws ws)), x] 2 (some (.val d))) 1 = some (.draws ws) := rfl
      rw [hw]
      simp only [bnd_assoc]
      rw [bnd_of hn]
      rfl)
  obtain ⟨x, rfl⟩ := h2
  have hb : -big ≤ turns ∧ turns ≤ big := by
    unfold big
    omega
  refine ⟨n', ?_⟩
  unfold bLaw
  rw [e_Seq, e_For, e_itemsR1, e_C, bnd_ret]
  dsimp only
  rw [if_pos hb, lift_some_eq, bnd_ret, bnd_of h1]
  rfl
/-- all but the table -/
noncomputable def outT (t : Option (Addr × Str)) (H : Hp) : Hp := fun b => @ite _ (∃ T, t = some T ∧ T.1 = b) (Classical.propDecidable _) none (H b)
/-- the table, and the empty dict at p -/
noncomputable def inT (t : Option (Addr × Str)) (p : Addr) (H : Hp) : Hp := upd (fun b => @ite _ (∃ T, t = some T ∧ T.1 = b) (Classical.propDecidable _) (H b) none) p (.dK [])
theorem outT_some {t : Option (Addr × Str)} {H : Hp} {b : Addr} {o : HO} (h : outT t H b = some o) : H b = some o ∧ ∀ T, t = some T → T.1 ≠ b := by
  unfold outT at h
  by_cases c : ∃ T, t = some T ∧ T.1 = b
  · rw [if_pos c] at h
    cases h
  · rw [if_neg c] at h
    exact ⟨h, fun T e z => c ⟨T, e, z⟩⟩
theorem outT_of {t : Option (Addr × Str)} {H : Hp} {b : Addr} {o : HO} (h : H b = some o) (n : ∀ T, t = some T → T.1 ≠ b) : outT t H b = some o := by
  unfold outT
  rw [if_neg fun ⟨T, e, z⟩ => n T e z]
  exact h
theorem inT_some {t : Option (Addr × Str)} {H : Hp} {p b : Addr} {o : HO} (h : inT t p H b = some o) : (b = p ∧ o = .dK []) ∨ ∃ T, t = some T ∧ T.1 = b ∧ H b = some o := by
  unfold inT at h
  by_cases c : b = p
  · subst c
    rw [upd_same] at h
    exact .inl ⟨rfl, (Option.some.inj h).symm⟩
  · rw [upd_ne c] at h
    by_cases d : ∃ T, t = some T ∧ T.1 = b
    · rw [if_pos d] at h
      obtain ⟨T, e, z⟩ := d
      exact .inr ⟨T, e, z, h⟩
    · rw [if_neg d] at h
      cases h
theorem inT_p {t : Option (Addr × Str)} {H : Hp} {p : Addr} : inT t p H p = some (.dK []) := upd_same
theorem inT_T {t : Option (Addr × Str)} {H : Hp} {p : Addr} {T : Addr × Str} {o : HO} (hp : H p = none) (e : t = some T) (h : H T.1 = some o) : inT t p H T.1 = some o := by
  unfold inT
  rw [upd_ne (ne_of_none h hp)]
  rw [if_pos ⟨T, e, rfl⟩]
  exact h
theorem outT_sq {K : PySem.W.Frag} {t : Option (Addr × Str)} {H : Hp} {a : Addr} {xs : List V} (hT : ∀ T, t = some T → H T.1 = some (.tbl #[])) (h : SqL K H a xs) : SqL K (outT t H) a xs := by
  rcases h with (h | ⟨o, h⟩) | h
  · exact .inl (.inl (outT_of h fun T e z => by
      rw [← z, hT T e] at h
      cases h))
  · exact .inl (.inr ⟨o, outT_of h fun T e z => by
      rw [← z, hT T e] at h
      cases h⟩)
  · exact .inr h
theorem law_rd {K : PySem.W.Frag} {turns : Int} (ht : 0 ≤ turns ∧ turns ≤ 1000) {g : Tag → List PyData → OM PyData} (h : HoldOk g) {vs : List V} {H : Hp} {Q : VK} {E : XK} {nx0 : L2.St → Hp → Prop} {t : Option (Addr × Str)} (sp : SpLaw K t vs H Q E) :
    tSeq (tAsg (tDisp [(tC (.str "draws"), rdE K (dCallD fDraws 0 (aCons (dC (.int 200)) aNil))), (tC (.str "at"), tC (.int 0))]) (gName 1)) (rdS K (bLaw turns g)) { nx := nx0, rt := Q } (L2.start ["script", "w", "turn"] vs) H := by
  obtain ⟨a, ns, rfl, hS, hl, hT, q⟩ := sp
  obtain ⟨ws, hf, hd⟩ := draws_ok ns hl
  obtain ⟨n', hb⟩ := bLaw_ok ht h hd ns
  refine fun p hp => ?_
  have rl : Rl K (outT t H) (inT t p H) none [some (.ref a), none, none] (upd H p (.dK [])) [some (.scr ns), none, none] 0 := by
    refine ⟨⟨fun b o e => ?_, fun b o e => ?_, fun b o e => ?_⟩, trivial, fun i e he => ?_, fun i j e e' v hij h1 h2 m1 m2 => ?_, rfl⟩
    · exact same_new hp _ _ (outT_some e).1
    · rcases inT_some e with ⟨rfl, rfl⟩ | ⟨T, e1, rfl, h⟩
      · exact upd_same
      · exact same_new hp _ _ h
    · rcases inT_some e with ⟨rfl, _⟩ | ⟨T, e1, rfl, h⟩
      · cases z : outT t H b with
        | none => rfl
        | some o =>
          have := (outT_some z).1
          rw [hp] at this
          cases this
      · cases z : outT t H T.1 with
        | none => rfl
        | some o => exact absurd rfl ((outT_some z).2 T e1)
    · match i, he with
      | 0, he =>
        cases he
        exact ⟨_, rfl, a, rfl, outT_sq hT hS⟩
      | 1, he => cases he
      | 2, he => cases he
      | n + 3, he => cases he
    · match i, h1 with
      | 0, h1 =>
        cases h1
        cases m1
      | 1, h1 => cases h1
      | 2, h1 => cases h1
      | n + 3, h1 => cases h1
  refine ⟨outT t H, _, none, _, 0, .list (ws.map PyData.int), 0, rl, ?_, fun v F1 H1 g1 rl1 p1 => ?_⟩
  · show dCallD fDraws 0 (aCons (dC (.int 200)) aNil) [some (.scr ns), none, none] 0 = _
    unfold dCallD
    rw [e_aCons, e_C, bnd_ret, e_aNil, bnd_ret, bnd_ret]
    have : getS [some (.scr ns), none, none] 0 = some ns := rfl
    rw [this]
    dsimp only
    rw [hf]
    rfl
  obtain ⟨l, xs, rfl, hl1, r1⟩ := p1.lst_inv
  have hx := r1.ints_inv
  subst hx
  have hp1 : H1 p = some (.dK []) := rl1.zn.bb p _ inT_p
  have fp1 : F1 p = none := rl1.zn.dj p _ inT_p
  refine ⟨hp1, [(.inr ("draws" : Str), .ref l), (.inr ("at" : Str), .int 0)], rfl, by show 2 ≤ 15; decide, ?_⟩
  have hm : mergeK [] [(.inr ("draws" : Str), V.ref l), (.inr ("at" : Str), V.int 0)] = [(.inr ("draws" : Str), V.ref l), (.inr ("at" : Str), V.int ((0 : Nat) : Int))] := rfl
  rw [hm]
  show rdS K (bLaw turns g) _ _ _
  refine ⟨F1, fun _ => none, some (.dr p l ws t), [some (.scr ns), some (.wdr (.draws ws)), none], 0, _, n', ?_, hb, fun v F' H' _ _ _ pv => ?_⟩
  · refine ⟨⟨same_mut rl1.zn.ff fp1, fun _ _ e => (nomatch e), fun _ _ e => (nomatch e)⟩, ⟨⟨upd_same, fun T e => ?_⟩, hl1, fun x c => ⟨?_, rfl⟩⟩, fun i e he => ?_, fun i j e e' v hij h1 h2 m1 m2 => ?_, rfl⟩
    · have h1 : H1 T.1 = some (.tbl #[]) := rl1.zn.bb _ _ (inT_T hp e (hT T e))
      refine LamX.TabS.nil ?_
      rw [upd_ne (show T.1 ≠ p from fun z => by
        rw [z, hp1] at h1
        cases h1)]
      exact h1
    · rcases c with rfl | ⟨T, e, rfl⟩
      · exact fp1
      · exact rl1.zn.dj _ _ (inT_T hp e (hT T e))
    · match i, he with
      | 0, he =>
        cases he
        exact ⟨_, rfl, a, rfl, g1.f.seq (outT_sq hT hS)⟩
      | 1, he =>
        cases he
        exact ⟨_, rfl, .dr p l ws t, rfl, rfl, rfl, trivial⟩
      | 2, he => cases he
      | n + 3, he => cases he
    · have only : ∀ (i : Nat) (e : En), ([some (.scr ns), some (.wdr (.draws ws)), none] : Env)[i]? = some (some e) → e.mut = true → i = 1 := fun i e he hm => by
        match i, he with
        | 0, he =>
          cases he
          cases hm
        | 1, he => rfl
        | 2, he => cases he
        | n + 3, he => cases he
      exact absurd ((only i e h1 m1).trans (only j e' h2 m2).symm) hij
  · rw [pv.bl_inv]
    exact q H'
end DL
namespace DL
open PySem PySem.Spec PyProof.Rows L2
/-! ### constants of the written part -/
theorem kt_tup {K : PySem.W.Frag} {F : Hp} {c : Addr} {od : Option Addr} {its : Array Value} {n : Nat} {sl : Array (Option Value)} {xs : List V} {ds : List PyData} (l : K.lookup c = some ⟨.type "tuple", od, .seq its n, sl⟩) (hz : its.size ≤ 1000) (hv : Vals xs its.toList) (r : RpAll K F xs ds) : Rp K F (.ref c) (.tuple ds) :=
  .tup (.inr ⟨_, its, n, l, rfl, rfl, Nat.le_trans hz (by decide), hv⟩) r
end DL
namespace DL
open PySem PySem.Spec PyProof.Rows L2
/-- a def of the module that may be called by its name -/
def Cal (P : Program) (w : World) (K : PySem.W.Frag) (mg : Str → Option Value) (base : Heap) (k : Nat) (x : Str) (sp : Sp) : Prop :=
  ∃ (f : Addr) (fd : FuncData) (ps : List Str), FnOk P w K mg base CX0 k f fd ps sp ∧ mg x = some (.ref f) ∧ PySem.W.keepIn K (.ref f) = true ∧ Binds K fd ps []
theorem pe_cal {X : Cx} {k j : Nat} {x : Str} {sp : Sp} {p pos : Pos} {e : Expr} {es : List Expr} {t : TA} (c : Cal X.prog X.w X.K X.mg X.base k x sp) (hr : Room j X.A) (hk : k ≤ j) (hg : Gl X x) (ha : PA X (e :: es) t)
    (he : starEach (e :: es) X.env = (false, eval e X.env) :: starEach es X.env := by rfl) (hpl : ((backTo pos (starEach es X.env)).any fun x => x.1) = false := by rfl) (hd : (x == ("__debug__" : Str)) = false := by decide) : PE X (.Call (.Name x p) (e :: es) [] pos) (tCall sp [] E0 t) := by
  obtain ⟨f, fd, ps, h1, h2, h3, h4⟩ := c
  exact pe_call h1 (hr.mono hk) hg h2 h3 h4 .nil pass0 ha hd he hpl
end DL

/-! DL, part k: comprehensions and loops as maps and folds. -/
namespace DL
open PySem PySem.Spec PyProof.Rows L2
theorem lcLoop_pure {p : Pt} {t : TM} {m : DM} {env : Env} (P : PyData → Bool) (g : PyData → PyData) : ∀ {ds : List PyData}, (∀ d ∈ ds, ∃ e, bindP p d env = some e ∧ t e = ret (P d) ∧ (P d = true → m e = ret (g d))) → lcLoop p t m env ds = ret ((ds.filter P).map g)
  | [], _ => rfl
  | d :: ds, h => by
    obtain ⟨e, h1, h2, h3⟩ := h d List.mem_cons_self
    have ih := lcLoop_pure P g (ds := ds) fun d hd => h d (List.mem_cons_of_mem _ hd)
    simp only [lcLoop, h1, h2, bnd_ret, ih]
    cases hp : P d with
    | true =>
      rw [h3 hp]
      simp [List.filter_cons, hp]
    | false => simp [List.filter_cons, hp]
/-- over lo, lo + 1, .. -/
theorem lcLoop_range {p : Pt} {t : TM} {m : DM} {env : Env} {lo hi : Int} (P : Int → Bool) (g : Int → PyData) (h : ∀ y : Int, lo ≤ y → y < hi → ∃ e, bindP p (.int y) env = some e ∧ t e = ret (P y) ∧ (P y = true → m e = ret (g y))) :
    lcLoop p t m env (rangeD lo hi) = ret ((((List.range (hi - lo).toNat).map fun (i : Nat) => lo + (i : Int)).filter P).map g) := by
  have e : rangeD lo hi = ((List.range (hi - lo).toNat).map fun (i : Nat) => lo + (i : Int)).map PyData.int := by
    unfold rangeD
    rw [List.map_map]
    rfl
  rw [e]
  have key : ∀ ys : List Int, (∀ y ∈ ys, lo ≤ y ∧ y < hi) → lcLoop p t m env (ys.map PyData.int) = ret ((ys.filter P).map g) := by
    intro ys
    induction ys with
    | nil => intro _; rfl
    | cons y ys ih =>
      intro hy
      have h0 := hy y List.mem_cons_self
      obtain ⟨e, h1, h2, h3⟩ := h y h0.1 h0.2
      have ih := ih fun z hz => hy z (List.mem_cons_of_mem _ hz)
      simp only [List.map_cons, lcLoop, h1, h2, bnd_ret, ih]
      cases hp : P y with
      | true =>
        rw [h3 hp]
        simp [List.filter_cons, hp]
      | false => simp [List.filter_cons, hp]
  refine key _ fun y hy => ?_
  rw [List.mem_map] at hy
  obtain ⟨i, hi, rfl⟩ := hy
  rw [List.mem_range] at hi
  omega
/-- a statement about small numbers, by all of them -/
theorem small_all {k : Nat} {P : Int → Prop} (h : ∀ i : Nat, i < k → P (i : Int)) {r : Int} (h0 : 0 ≤ r) (h1 : r < (k : Int)) : P r := by
  have e : r = (r.toNat : Int) := by omega
  rw [e]
  exact h _ (by omega)
end DL

/-! DL, part l: more values. -/
namespace DL
open PySem PySem.Spec PyProof.Rows L2
@[simp] theorem intsOf_mp (ns : List Int) : intsOf (ns.map PyData.int) = some ns := intsOf_map ns
@[simp] theorem boolsOf_mp (ns : List Bool) : boolsOf (ns.map PyData.bool) = some ns := boolsOf_map ns
section
variable (l m : List Int) (bs : List Bool) (a b c d e f v : Int) (ds : List PyData)
@[simp] theorem seqOf_l : seqOf (.list ds) = some ds := (rfl)
@[simp] theorem seqOf_t : seqOf (.tuple ds) = some ds := (rfl)
@[simp] theorem v_sumL : sumD [.list ds] = match intsOf ds with
  | some ns => some (.int ns.sum)
  | none => none := (rfl)
@[simp] theorem v_sumT : sumD [.tuple ds] = match intsOf ds with
  | some ns => some (.int ns.sum)
  | none => none := (rfl)
@[simp] theorem v_allL : allD [.list ds] = match boolsOf ds with
  | some ns => some (.bool (ns.all id))
  | none => none := (rfl)
@[simp] theorem v_anyL : anyD [.list ds] = match boolsOf ds with
  | some ns => some (.bool (ns.any id))
  | none => none := (rfl)
@[simp] theorem v_max1L : max1D [.list ds] = match intsOf ds with
  | some (x :: r) => some (.int (maxL (x :: r)))
  | _ => none := (rfl)
@[simp] theorem v_min1L : min1D [.list ds] = match intsOf ds with
  | some (x :: r) => some (.int (minL (x :: r)))
  | _ => none := (rfl)
@[simp] theorem v_tupL : tupOfD [.list ds] = some (.tuple ds) := (rfl)
@[simp] theorem v_tupT : tupOfD [.tuple ds] = some (.tuple ds) := (rfl)
@[simp] theorem v_inT : inD (.int v) (.tuple ds) = if ds.all flat = true then some (.bool (ds.any fun z => PyData.eqv z (.int v))) else none := (rfl)
@[simp] theorem v_inL : inD (.int v) (.list ds) = if ds.all flat = true then some (.bool (ds.any fun z => PyData.eqv z (.int v))) else none := (rfl)
@[simp] theorem v_notInT : notInD (.int v) (.tuple ds) = if ds.all flat = true then some (.bool (!ds.any fun z => PyData.eqv z (.int v))) else none := (rfl)
@[simp] theorem v_notInL : notInD (.int v) (.list ds) = if ds.all flat = true then some (.bool (!ds.any fun z => PyData.eqv z (.int v))) else none := (rfl)
@[simp] theorem flat_int : flat (.int v) = true := (rfl)
@[simp] theorem eqv_int : PyData.eqv (.int a) (.int b) = decide (a = b) := by
  have : PyData.eqv (.int a) (.int b) = (a == b) := (rfl)
  rw [this, Bool.beq_eq_decide_eq]
@[simp] theorem isi_int : isiD "int" (.int v) = some (.bool true) := (rfl)
@[simp] theorem isi_bool : isiD "bool" (.int v) = some (.bool false) := (rfl)
@[simp] theorem isi_tup : isiD "tuple" (.tuple ds) = some (.bool true) := (rfl)
theorem eqA2 : eqD (.tuple [.int a, .int b]) (.tuple [.int c, .int d]) = some (.bool ((a == c) && ((b == d) && true))) := (rfl)
theorem neA2 : neD (.tuple [.int a, .int b]) (.tuple [.int c, .int d]) = some (.bool !((a == c) && ((b == d) && true))) := (rfl)
theorem eqA3 : eqD (.tuple [.int a, .int b, .int e]) (.tuple [.int c, .int d, .int f]) = some (.bool ((a == c) && ((b == d) && ((e == f) && true)))) := (rfl)
theorem neA3 : neD (.tuple [.int a, .int b, .int e]) (.tuple [.int c, .int d, .int f]) = some (.bool !((a == c) && ((b == d) && ((e == f) && true)))) := (rfl)
@[simp] theorem v_eq2 : eqD (.tuple [.int a, .int b]) (.tuple [.int c, .int d]) = some (.bool (decide (a = c ∧ b = d))) := by
  rw [eqA2]
  simp only [Bool.beq_eq_decide_eq, Bool.and_true, Bool.decide_and]
@[simp] theorem v_ne2 : neD (.tuple [.int a, .int b]) (.tuple [.int c, .int d]) = some (.bool !(decide (a = c ∧ b = d))) := by
  rw [neA2]
  simp only [Bool.beq_eq_decide_eq, Bool.and_true, Bool.decide_and]
@[simp] theorem v_eq3 : eqD (.tuple [.int a, .int b, .int e]) (.tuple [.int c, .int d, .int f]) = some (.bool (decide (a = c ∧ b = d ∧ e = f))) := by
  rw [eqA3]
  simp only [Bool.beq_eq_decide_eq, Bool.and_true, Bool.decide_and]
@[simp] theorem v_ne3 : neD (.tuple [.int a, .int b, .int e]) (.tuple [.int c, .int d, .int f]) = some (.bool !(decide (a = c ∧ b = d ∧ e = f))) := by
  rw [neA3]
  simp only [Bool.beq_eq_decide_eq, Bool.and_true, Bool.decide_and]
@[simp] theorem atI_0 (x : PyData) : atI (x :: ds) 0 = some x := atI_nat (j := 0) rfl
@[simp] theorem atI_1 (x y : PyData) : atI (x :: y :: ds) 1 = some y := atI_nat (j := 1) rfl
@[simp] theorem atI_2 (x y z : PyData) : atI (x :: y :: z :: ds) 2 = some z := atI_nat (j := 2) rfl
@[simp] theorem atI_3 (x y z u : PyData) : atI (x :: y :: z :: u :: ds) 3 = some u := atI_nat (j := 3) rfl
end
theorem canLayI : ∀ l : List Int, PyData.canLayAll0 (l.map PyData.int) = true
  | [] => by simp only [List.map_nil, PyData.canLayAll0]
  | x :: l => by simp only [List.map_cons, PyData.canLayAll0, PyData.canLay0, canLayI l, Bool.and_self]
theorem depthI : ∀ l : List Int, PyData.depthAll (l.map PyData.int) ≤ 1
  | [] => by simp [PyData.depthAll]
  | x :: l => by
    have := depthI l
    simp only [List.map_cons, PyData.depthAll, PyData.depth]
    omega
theorem eqvI : ∀ l m : List Int, PyData.eqvAll (l.map PyData.int) (m.map PyData.int) = decide (l = m)
  | [], [] => by simp [PyData.eqvAll]
  | [], y :: m => by simp [PyData.eqvAll]
  | x :: l, [] => by simp [PyData.eqvAll]
  | x :: l, y :: m => by
    simp only [List.map_cons, PyData.eqvAll, eqvI l m, eqv_int, List.cons.injEq, Bool.decide_and]
theorem shapedL (l : List Int) : SeqAt.shaped (.list (l.map PyData.int)) = true := by
  have := depthI l
  unfold SeqAt.shaped
  rw [Bool.and_eq_true]
  refine ⟨by simp only [PyData.canLay0, canLayI], decide_eq_true ?_⟩
  simp only [PyData.depth]
  exact Nat.le_trans (Nat.succ_le_succ this) (by decide)
theorem shapedT (l : List Int) : SeqAt.shaped (.tuple (l.map PyData.int)) = true := by
  have := depthI l
  unfold SeqAt.shaped
  rw [Bool.and_eq_true]
  refine ⟨by simp only [PyData.canLay0, canLayI], decide_eq_true ?_⟩
  simp only [PyData.depth]
  exact Nat.le_trans (Nat.succ_le_succ this) (by decide)
theorem v_eqLL (l m : List Int) : eqD (.list (l.map PyData.int)) (.list (m.map PyData.int)) = some (.bool (decide (l = m))) := by
  unfold eqD
  rw [shapedL, shapedL, PyData.eqv, eqvI]
  rfl
theorem v_neLL (l m : List Int) : neD (.list (l.map PyData.int)) (.list (m.map PyData.int)) = some (.bool (!decide (l = m))) := by
  unfold neD
  rw [shapedL, shapedL, PyData.eqv, eqvI]
  rfl
theorem v_eqTT (l m : List Int) : eqD (.tuple (l.map PyData.int)) (.tuple (m.map PyData.int)) = some (.bool (decide (l = m))) := by
  unfold eqD
  rw [shapedT, shapedT, PyData.eqv, eqvI]
  rfl
theorem v_neTT (l m : List Int) : neD (.tuple (l.map PyData.int)) (.tuple (m.map PyData.int)) = some (.bool (!decide (l = m))) := by
  unfold neD
  rw [shapedT, shapedT, PyData.eqv, eqvI]
  rfl
theorem atI_eq {α : Type} (xs : List α) (i : Int) : atI xs i = if 0 ≤ i then xs[i.toNat]? else if -(xs.length : Int) ≤ i then xs[(i + (xs.length : Int)).toNat]? else none := by
  unfold atI ixN
  by_cases h : 0 ≤ i
  · rw [if_pos h, if_pos h]
    by_cases h2 : i < xs.length
    · rw [if_pos h2]
      rfl
    · rw [if_neg h2, List.getElem?_eq_none (by omega)]
      rfl
  · rw [if_neg h, if_neg h]
    by_cases h2 : -(xs.length : Int) ≤ i
    · rw [if_pos h2, if_pos h2]
      rfl
    · rw [if_neg h2, if_neg h2]
      rfl
/-- x is True, x is False -/
def isBD (x y : PyData) : Option PyData := match x with
  | .bool a => match y with
    | .bool b => some (.bool (decide (a = b)))
    | _ => none
  | _ => none
def isntBD (x y : PyData) : Option PyData := match x with
  | .bool a => match y with
    | .bool b => some (.bool (!decide (a = b)))
    | _ => none
  | _ => none
theorem Lp.bool_inv {K : PySem.W.Frag} {F H : Hp} {v : V} {b : Bool} (h : Lp K F H v (.bool b)) : v = .bl b := by
  rcases h with h | ⟨a, xs, ds, e, _⟩
  · cases h
    rfl
  · cases e
theorem r_isB {K : PySem.W.Frag} : R2D K (fun x y H Q => ∃ a b, x = .bl a ∧ y = .bl b ∧ Q (.bl (decide (a = b))) H) isBD := fun F H x y d1 d2 d Q s p1 p2 e k => by
  match d1, d2, e, p1, p2 with
  | .bool a, .bool b, e, p1, p2 =>
    cases e
    exact ⟨a, b, p1.bool_inv, p2.bool_inv, k _ F H (.refl s) (.bl _)⟩
theorem r_isntB {K : PySem.W.Frag} : R2D K (fun x y H Q => ∃ a b, x = .bl a ∧ y = .bl b ∧ Q (.bl (!decide (a = b))) H) isntBD := fun F H x y d1 d2 d Q s p1 p2 e k => by
  match d1, d2, e, p1, p2 with
  | .bool a, .bool b, e, p1, p2 =>
    cases e
    exact ⟨a, b, p1.bool_inv, p2.bool_inv, k _ F H (.refl s) (.bl _)⟩
@[simp] theorem v_isB (a b : Bool) : isBD (.bool a) (.bool b) = some (.bool (decide (a = b))) := (rfl)
@[simp] theorem v_isntB (a b : Bool) : isntBD (.bool a) (.bool b) = some (.bool (!decide (a = b))) := (rfl)
end DL

/-! DL, part m: sets made of lists of ints. -/
namespace L2
open PySem PySem.Spec PyProof.Rows
section
variable {P : Program} {w : World} {A : Around} {E : Value → Shared → Prop} {s : Shared}
abbrev setObj0 (w : World) : Obj := { cls := .type "set", dict := none, data := .set #[] 0 (.fresh 0 0 (!w.params.followText "set-order")) }
/-- set.__init__ of a list of ints, on a new set -/
theorem init_set_lstI {l : Addr} {items : Array Value} (ns : List Int) {R : Result → Shared → Prop} (hh : A.handled = none) (hl : s.heap.IsList l items) (hit : IntsAre items.toList ns) (hb : ns.length + 1 < scanBound) {S : Addr} (hS : s.heap.get? S = some (setObj0 w)) (hlS : l ≠ S)
    (h : ∀ (h' : Heap) (tk c : Nat), SetR w h' S (fun j => decide (j ∈ ns)) c → c ≤ ns.length → (∀ b o, b ≠ S → s.heap.get? b = some o → h'.get? b = some o) → R (.ok (.ret .none)) { s with heap := h', toks := tk })
    (hT : Shared.TypeIs s (.ref S) "set") :
    codeAny (model P w) A (.call (.builtin "set.__init__") ⟨[.ref S, .ref l], []⟩) R s := by
  have hisz : items.size = ns.length := by
    have q := IntsAre.length hit
    rw [Array.length_toList] at q
    exact q
  refine codeAny_mono (codeAny_call_builtin (R := R) F.called_set.init.plain F.entry_set_init (check_set_init_1 hT ?_)) fun _ _ hr => hr
  obtain ⟨ol, hol, hcl, nl, hdl⟩ := hl
  obtain ⟨ocls, odict, odata, oslots⟩ := ol
  simp only at hcl hdl
  subst hcl; subst hdl
  have hsls := F.sub_list_set
  have hslf := F.sub_list_frozenset
  have hne : (Value.type "list" == Value.type "dict") = false := by decide
  have hl1 : s.heap.IsList l items := ⟨_, hol, rfl, nl, rfl⟩
  unfold Builtin.«set.__init__» noKeywords Builtin.Frozenset.updateFrom
  generalize hPI : pyIter = PI
  wp_walk
  subst hPI
  refine wpAny_pyIter_list hl1 (wpAny_bind (wpAny_runValue ?_))
  have hlt : l < s.heap.objs.size := Heap.lt_size hol
  have hSt : S < s.heap.objs.size := Heap.lt_size hS
  have hh3 : A.in1.in1.handled = none := by simp [hh]
  have hval : ∀ (i : Nat) (v : Value), items[i]? = some v → ∃ k t, ns[i]? = some k ∧ v = .int k t := fun i v hv => by
    have hi : i < ns.length := by rw [← hisz]; exact (Array.getElem?_eq_some_iff.mp hv).1
    obtain ⟨t, e⟩ := PyProof.Rows.IntsAre.int_at hit i v (by rw [Array.getElem?_toList]; exact hv)
    refine ⟨ns[i], t, List.getElem?_eq_getElem hi, ?_⟩
    rw [e, List.getD_eq_getElem?_getD, List.getElem?_eq_getElem hi] <;> rfl
  have hSf : S ∉ [s.heap.objs.size, l] := by
    intro hm
    rcases List.mem_cons.mp hm with e | hm
    · exact Nat.ne_of_lt hSt e
    · exact hlS (List.mem_singleton.mp hm).symm
  refine set_update_ints ((Walks.list hh3 _ l (Nat.ne_of_lt hlt) items).toS) S hSf ns hisz hb hval (items.size - 0) 0 _ (by omega) (Nat.zero_le _)
    ⟨⟨_, Heap.get?_push_size _ rfl, rfl, rfl⟩, hl1.push _⟩ ⟨0, Nat.le_refl 0, setR_new_at (Heap.get?_push_of_some _ hS)⟩ ?_
  intro s' c' hm hc' hS'
  obtain ⟨h', g2, d', tk', os'⟩ := s'
  have eg : g2 = s.gens := hm.gens
  have ed : d' = s.drawn := hm.drawn
  have eo : os' = s.os := hm.os
  subst eg; subst ed; subst eo
  show wpAny _ _ _ _ _ _
  refine wpAny_pure ?_
  show wpAny _ _ (ret Value.none) _ _ _
  rw [hisz] at hc'
  refine wpAny_pure ?_
  refine h h' tk' c' hS' hc' fun b o hb e => ?_
  have hbs : b ≠ s.heap.objs.size := Nat.ne_of_lt (Heap.lt_size e)
  exact hm.heap b o (fun hx => by
    rcases List.mem_cons.mp hx with e | hx
    · exact hb e
    · exact hbs (List.mem_singleton.mp hx)) (Heap.get?_push_of_some _ e)
theorem call_set_lstI {l : Addr} {items : Array Value} (ns : List Int) {Q : Value → Shared → Prop} (hh : A.handled = none) (hl : s.heap.IsList l items) (hit : IntsAre items.toList ns) (hb : ns.length + 1 < scanBound)
    (h : ∀ (h' : Heap) (tk c : Nat), SetR w h' s.heap.objs.size (fun j => decide (j ∈ ns)) c → c ≤ ns.length → (∀ b o, s.heap.get? b = some o → h'.get? b = some o) → Q (.ref s.heap.objs.size) { s with heap := h', toks := tk }) :
    wpAny (model P w) A (call (.type "set") [.ref l]) Q E s := by
  obtain ⟨c, tl, hmro⟩ := F.called_set.mro
  have hmade := F.called_set.made
  have hsub := F.called_set.sub
  refine wpAny_call (codeAny_of_tree ?_)
  show wpAny _ _ (callAny (.type "set") _) _ _ _
  refine wpAny_pure ⟨Code.quiet_builtin _ (by decide +kernel), codeAny_builtin F.entry_type_call ?_⟩
  rw [Around.under_plain (weight_type_call_type "set" [.ref l] []) rfl]
  have h1 := F.called_set.notType
  have h2 := F.called_set.canCreate
  have hct := F.typeCall_set_1 (.ref l)
  repeat (any_goals (first | assumption | wp_step))
  refine codeAny_mono (code_set_led1 (.ref l) (E := E) (Q₁ := fun obj s₁ => obj = .ref s.heap.objs.size ∧ s₁ = { s with heap := s.heap.push (setObj0 w) }) ⟨rfl, rfl⟩) fun r s₁ hr => ?_
  cases r with
  | error e => exact hr
  | ok fl =>
    cases fl with
    | ret obj =>
      obtain ⟨rfl, rfl⟩ := hr
      have hS : (s.heap.push (setObj0 w)).get? s.heap.objs.size = some (setObj0 w) := Heap.get?_push_size _ rfl
      have hT : Shared.TypeIs { s with heap := s.heap.push (setObj0 w) } (.ref s.heap.objs.size) "set" := ⟨_, hS, rfl⟩
      have hli := F.called_set.init.lookup
      have hbi := F.called_set.init.bind (.ref s.heap.objs.size)
      have hlt : l < s.heap.objs.size := by
        obtain ⟨ol, hol, _⟩ := hl
        exact Heap.lt_size hol
      repeat (any_goals (first | assumption | wp_step))
      refine codeAny_mono (init_set_lstI (s := { s with heap := s.heap.push (setObj0 w) }) (R := wants (fun r s₂ => r = .none ∧ ∃ h' tk c, s₂ = { s with heap := h', toks := tk } ∧ SetR w h' s.heap.objs.size (fun j => decide (j ∈ ns)) c ∧ c ≤ ns.length ∧
          (∀ b o, s.heap.get? b = some o → h'.get? b = some o)) E) ns (by simp [hh]) (hl.push _) hit hb hS (Nat.ne_of_lt hlt) (fun h' tk c a1 a2 a3 => ?_) hT) fun r₂ s₂ hr₂ => ?_
      · exact ⟨rfl, h', tk, c, rfl, a1, a2, fun b o e => a3 b o (Nat.ne_of_lt (Heap.lt_size e)) (Heap.get?_push_of_some _ e)⟩
      · cases r₂ with
        | error e => exact hr₂
        | ok fl₂ =>
          cases fl₂ with
          | ret r =>
            obtain ⟨rfl, h', tk, c', rfl, hS', hc', hk'⟩ := hr₂
            repeat (any_goals (first | assumption | wp_step))
            exact h _ _ _ hS' hc' hk'
          | _ => exact hr₂.elim
    | _ => exact hr.elim
end
section
variable {X : Cx}
/-- set(xs), xs a list of ints -/
def rSetLI (K : PySem.W.Frag) (w : World) : List V → Hp → VK → Prop := fun xs H Q => ∃ (l : Addr) (ns : List Int), xs = [V.ref l] ∧ SqL K H l (ns.map V.int) ∧ ns.length ≤ 4000 ∧ ∀ a c, H a = none → c ≤ ns.length → Q (.ref a) (upd H a (SetO w a (fun j => decide (j ∈ ns)) c))
theorem cr_setLI (hc : X.calm = true) : CallR X (.type "set") (rSetLI X.K X.w) := by
  intro pins s σ H xs us Q I r h
  obtain ⟨l, ns, rfl, hl, hz, q⟩ := h
  rw [Vals.ref1 r]
  obtain ⟨its, rv, pl, _⟩ := I.list hl
  have hn : H s.heap.objs.size = none := I.hok.fresh (Nat.le_refl _)
  refine call_set_lstI ns (I.ok.hd hc) pl.isList (by simpa using rv.ints) (by unfold scanBound; omega) fun h' tk c R hcn k => ?_
  exact ⟨.ref s.heap.objs.size, upd H s.heap.objs.size (SetO X.w s.heap.objs.size (fun j => decide (j ∈ ns)) c), I.laid (t' := tk) k (Nat.le_refl _) (setO_new R), rfl, q _ c hn hcn⟩
/-- len(found), a set of ints: as many as a list of its members without twins -/
def rLenSetO (w : World) : List V → Hp → VK → Prop := fun xs H Q => ∃ (a : Addr) (S : Int → Bool) (n : Nat), xs = [V.ref a] ∧ H a = some (SetO w a S n) ∧ ∀ ns : List Int, ns.Nodup → (∀ k, k ∈ ns ↔ S k = true) → Q (.int ns.length) H
theorem cr_lenSetO : CallR X (.builtin "len") (rLenSetO X.w) := by
  intro pins s σ H xs us Q I r h
  obtain ⟨a, S, n, rfl, ha, q⟩ := h
  rw [Vals.ref1 r]
  obtain ⟨o, es, ep, t, ho, hex, hd, _, nd, hm, hb, hf, _⟩ := setO_get I ha
  refine call_len_set ho hex hd hf (by unfold scanBound at hb; omega) ⟨.int es.size, H, I.tok _, ⟨_, rfl⟩, ?_⟩
  have := q (es.toList.map keyOf) nd fun k => (hm k).symm
  rw [List.length_map, Array.length_toList] at this
  exact this
end
end L2
namespace DL
open PySem PySem.Spec PyProof.Rows L2
/-- each once, ascending -/
def insU (x : Int) : List Int → List Int
  | [] => [x]
  | y :: r => if x < y then x :: y :: r else if x = y then y :: r else y :: insU x r
def uniqI : List Int → List Int
  | [] => []
  | x :: r => insU x (uniqI r)
theorem insU_mem (x k : Int) : ∀ l : List Int, k ∈ insU x l ↔ k = x ∨ k ∈ l
  | [] => by simp [insU]
  | y :: r => by
    have ih := insU_mem x k r
    unfold insU
    split
    · simp
    · split
      · rename_i h
        subst h
        simp
      · simp only [List.mem_cons, ih]
        constructor
        · rintro (h | h | h) <;> simp [h]
        · rintro (h | h | h) <;> simp [h]
theorem uniqI_mem (k : Int) : ∀ l : List Int, k ∈ uniqI l ↔ k ∈ l
  | [] => by simp [uniqI]
  | x :: r => by
    unfold uniqI
    rw [insU_mem, uniqI_mem k r, List.mem_cons]
theorem insU_asc (x : Int) : ∀ {l : List Int}, l.Pairwise (· < ·) → (insU x l).Pairwise (· < ·)
  | [], _ => by simp [insU]
  | y :: r, h => by
    obtain ⟨h1, h2⟩ := List.pairwise_cons.mp h
    unfold insU
    split
    · rename_i hx
      refine List.pairwise_cons.mpr ⟨fun z hz => ?_, h⟩
      rcases List.mem_cons.mp hz with e | hz
      · omega
      · have := h1 z hz
        omega
    · split
      · exact h
      · refine List.pairwise_cons.mpr ⟨fun z hz => ?_, insU_asc x h2⟩
        rcases (insU_mem x z r).mp hz with e | hz
        · omega
        · exact h1 z hz
theorem uniqI_asc : ∀ l : List Int, (uniqI l).Pairwise (· < ·)
  | [] => .nil
  | x :: r => insU_asc x (uniqI_asc r)
theorem asc_nodup {l : List Int} (h : l.Pairwise (· < ·)) : l.Nodup := h.imp fun h => by omega
theorem asc_unique {l m : List Int} (a : l.Pairwise (· < ·)) (b : m.Pairwise (· < ·)) (h : ∀ k, k ∈ l ↔ k ∈ m) : l = m :=
  List.Perm.eq_of_pairwise (fun x y _ _ h1 h2 => by omega) a b ((List.perm_ext_iff_of_nodup (asc_nodup a) (asc_nodup b)).mpr h)
theorem asc_length {l m : List Int} (a : l.Nodup) (b : m.Nodup) (h : ∀ k, k ∈ l ↔ k ∈ m) : l.length = m.length := ((List.perm_ext_iff_of_nodup a b).mpr h).length_eq
/-- sorted(set(xs)), of at most 63 -/
def sortedSetD := arg1F fun d => match d with
  | .list ds => match intsOf ds with
    | some ns => if ns.length < 64 then some ((uniqI ns).map PyData.int) else none
    | none => none
  | _ => none
/-- len(set(xs)) -/
def lenSetD := arg1 fun d => match d with
  | .list ds => match intsOf ds with
    | some ns => if ns.length ≤ 4000 then some (.int ((uniqI ns).length : Int)) else none
    | none => none
  | _ => none
end DL

/-! DL, part n: extend by a tuple, lists of ranges, sets of lists of ints. -/
namespace L2
open PySem PySem.Spec PyProof.Rows
theorem extend_by_tup (l : Addr) (items : Array Value) (n : Nat) (b : Addr) (items2 : Array Value) (n2 : Nat) (dd : Option Addr) (sl : Array (Option Value)) (hs0 : ¬(!items.isEmpty && Builtin.List.listTooLong (items.size + items2.size)) = true) (hs1 : items.size ≤ sizeLine) (hs2 : items.size + items2.size ≤ sizeLine + 1) :
    Meets (Builtin.«list.extend» ⟨[.ref l, .ref b], []⟩) (fun _ R s => s.heap.get? l = some { cls := .type "list", dict := none, data := .seq items n, slots := #[] } ∧ s.heap.get? b = some { cls := .type "tuple", dict := dd, data := .seq items2 n2, slots := sl } ∧ R (.ok (.ret Value.none)) { s with heap := s.heap.update l (Obj.mapSeq fun x => x ++ items2), toks := s.toks }) :=
  .of_wp fun prog w A R s h => by
    obtain ⟨hp, g, d, tk, os⟩ := s
    obtain ⟨hl, hb, h⟩ := h
    have f1 := PySem.AutoSeq1.idx_int
    have f2 := sub_tuple_tuple
    have f3 := sub_list_list
    have f4 := sub_tuple_list
    have f5 := sub_list_tuple
    have hz' : (items ++ items2).size ≤ sizeLine + 1 := by rw [Array.size_append]; exact hs2
    wp_walk using (wpAny_updateSeq hl rfl (hz := hs1) (_hz' := hz')), wpAny_loadPart' hl, wpAny_loadPart' hb
    exact ⟨_, rfl, h⟩
section
variable {X : Cx}
/-- xs.extend(ys) of a tuple -/
def rExtendT (K : PySem.W.Frag) : V → List V → Hp → VK → Prop := fun x vs H Q => ∃ l b xs zs, x = .ref l ∧ vs = [.ref b] ∧ H l = some (.lst xs) ∧ SqT K H b zs ∧ xs.length + zs.length ≤ sizeLine ∧ Q .non (upd H l (.lst (xs ++ zs)))
theorem mt_extendT : MtM X "list.extend" (rExtendT X.K) := by
  intro pins s σ H x vs v us Q I rx rv h
  obtain ⟨l, b, xs, zs, rfl, rfl, hH, hB, hz, q⟩ := h
  cases rx
  obtain ⟨u, rfl, ru⟩ := rv.one
  cases ru
  obtain ⟨z, its, n, r, hl, e⟩ := I.lstM hH
  obtain ⟨its2, r2, ⟨⟨cls2, dd, data2, sl⟩, e2, hc2, n2, hd2⟩, hl2⟩ := I.tuple hB
  simp only at hc2 hd2
  subst hc2 hd2
  have h2 := r2.length
  have hsz : its.toArray.size + its2.toArray.size ≤ sizeLine := by rw [List.size_toArray, List.size_toArray]; omega
  have hlong : ¬ (!its.toArray.isEmpty && Builtin.List.listTooLong (its.toArray.size + its2.toArray.size)) = true := by
    rw [notLongL hsz, Bool.and_false]
    exact Bool.false_ne_true
  refine call_meets F.slot_list_extend ⟨_, e, rfl⟩ F.entry_list_extend (F.args_list_extend_2 _ _)
    (extend_by_tup l its.toArray n b its2.toArray n2 dd sl hlong (by rw [List.size_toArray]; omega) (by omega)) ⟨e, e2, ?_⟩
  refine ⟨.non, _, I.lset (its' := its ++ its2) hH e (by simp) (r.append r2) ?_, rfl, q⟩
  rw [List.length_append]
  omega
end
end L2
namespace DL
open PySem PySem.Spec PyProof.Rows L2
section
variable {X : Cx} {st : Stmt} {e : Expr}
/-- xs.extend(ys) of a tuple -/
def sExtT (i : Nat) (m : DM) : SM := fun env => bnd (m env) fun d => match getO env i, d with
  | some ds, .tuple es => if ds.length + es.length ≤ lim then ret (.nx (env.set i (some (.own (ds ++ es))))) else fail
  | _, _ => fail
theorem ds_extT {i : Nat} {m : DM} (h : PS X st (tDrop (tBM X.K "list" (rExtendT X.K) (tVar i) (tCons (rdE X.K m) tNil)))) : DS X st (sExtT i m) := h.imp fun D σ H ⟨F, B, W, env, n, r, n', rl, e, k⟩ => by
  obtain ⟨d, n1, e1, e⟩ := bnd_some e
  obtain ⟨ds, es, ho, rfl, hl, e2⟩ : ∃ ds es, getO env i = some ds ∧ d = .tuple es ∧ ds.length + es.length ≤ lim ∧ ret (Fl.nx (env.set i (some (.own (ds ++ es))))) n1 = some (r, n') := by
    cases ho : getO env i with
    | none => simp only [ho, fail] at e; cases e
    | some ds =>
      cases d with
      | tuple es =>
        simp only [ho] at e
        by_cases hl : ds.length + es.length ≤ lim
        · rw [if_pos hl] at e
          exact ⟨ds, es, rfl, rfl, hl, e⟩
        · rw [if_neg hl] at e
          cases e
      | _ => simp only [ho, fail] at e; cases e
  obtain ⟨rfl, rfl⟩ := ret_some e2
  obtain ⟨a, xs, h1, h2, h3⟩ := own_at rl ho
  refine ⟨_, h1, .inl ⟨rfl, xs, .of h2⟩, F, B, W, env, n, _, _, rl, e1, fun v F1 H1 g rl1 p => ?_⟩
  obtain ⟨a', xs', h1', h2', h3'⟩ := own_at rl1 ho
  rw [h1] at h1'
  cases h1'
  obtain ⟨b, zs, rfl, hb, rb⟩ := p.tup_inv
  refine ⟨a, b, xs', zs, rfl, rfl, h2', sqt_mono rl1.zn.ff hb, by rw [h3'.len, rb.len]; exact lim_le hl, ?_⟩
  exact k σ F1 _ g.f (rl1.updOwn (getO_some ho) h1 (h3'.append rb))
@[simp] theorem e_ExtT (i : Nat) (m : DM) (env : DL.Env) : sExtT i m env = bnd (m env) fun d => match getO env i, d with
  | some ds, .tuple es => if ds.length + es.length ≤ lim then ret (.nx (env.set i (some (.own (ds ++ es))))) else fail
  | _, _ => fail := (rfl)
/-- list(range(a, b)) -/
def listRg2 (a b : DM) : AM := fun env => bnd (a env) fun x => bnd (b env) fun y => match x, y with
  | .int i, .int j => if -big ≤ i ∧ i ≤ big ∧ -big ≤ j ∧ j ≤ big ∧ j - i ≤ 16000000 then ret (rangeD i j) else fail
  | _, _ => fail
@[simp] theorem e_listRg2 (a b : DM) (env : DL.Env) : listRg2 a b env = bnd (a env) fun x => bnd (b env) fun y => match x, y with
  | .int i, .int j => if -big ≤ i ∧ i ≤ big ∧ -big ≤ j ∧ j ≤ big ∧ j - i ≤ 16000000 then ret (rangeD i j) else fail
  | _, _ => fail := (rfl)
theorem rgV_rp {K : PySem.W.Frag} {F : Hp} (i j : Int) : RpAll K F (rgV i j) (rangeD i j) := by
  have h := RpAll.ints (K := K) (F := F) ((List.range (j - i).toNat).map fun (k : Nat) => i + (k : Int))
  rw [List.map_map, List.map_map] at h
  exact h
theorem fe_listRg2 {a b : DM} (h : PE X e (tLstRg (tRg2 (rdE X.K a) (rdE X.K b)))) : FE X e (listRg2 a b) := h.imp fun σ H Q ⟨F, B, W, env, n, ds, n', rl, e, k⟩ => by
  obtain ⟨x, n1, e1, e⟩ := bnd_some e
  obtain ⟨y, n2, e2, e⟩ := bnd_some e
  refine ⟨F, B, W, env, n, x, n1, rl, e1, fun v1 F1 H1 g1 rl1 p1 => ⟨F1, B, W, env, n1, y, n2, rl1, e2, fun v2 F2 H2 g2 rl2 p2 => ?_⟩⟩
  match x, y, e, p1, p2 with
  | .int i, .int j, e, p1, p2 =>
    dsimp only at e
    by_cases c : -big ≤ i ∧ i ≤ big ∧ -big ≤ j ∧ j ≤ big ∧ j - i ≤ 16000000
    · rw [if_pos c] at e
      obtain ⟨rfl, rfl⟩ := ret_some e
      obtain ⟨c1, c2, c3, c4, c5⟩ := c
      unfold big at c1 c2 c3 c4
      refine ⟨i, j, p1.int_inv, p2.int_inv, ⟨by omega, by omega, by omega, by omega, by omega⟩, fun q hq => ?_⟩
      have gr : Gr F2 H2 F2 (upd H2 q (.lst (rgV i j))) := .mine rl2.zn.ff hq
      have g12 := g1.trans g2
      exact k q _ F2 _ (g12.trans (.of gr)) (rl2.gr gr) (g12.keepNone rl rl2 hq) upd_same (same_none rl2.zn.ff hq) (rgV_rp i j)
    · rw [if_neg c] at e
      cases e
/-- len(set(xs)) -/
theorem de_lenSet {a : DM} (h : PE X e (tCB (rLenSetO X.w) (tCons (tCB (rSetLI X.K X.w) (tCons (rdL X.K a) tNil)) tNil))) : DE X e (dCallB lenSetD (aCons a aNil)) := h.imp fun σ H Q ⟨F, B, W, env, n, ds, n', rl, e, k⟩ => by
  obtain ⟨x, n1, e1, e⟩ := bnd_some e
  obtain ⟨d, n2, e3, e4⟩ := bnd_some e1
  rw [aNil, bnd_ret] at e4
  obtain ⟨rfl, rfl⟩ := ret_some e4
  obtain ⟨e5, rfl⟩ := lift_some e
  obtain ⟨d, hx, e6⟩ := arg1_some e5
  cases hx
  refine ⟨F, B, W, env, n, d, _, rl, e3, fun v F1 H1 g1 rl1 p1 => ?_⟩
  cases d with
  | list es =>
    simp only at e6
    split at e6
    · rename_i ns hn
      split at e6
      · rename_i hz
        cases e6
        obtain ⟨b, xs, rfl, hb, r⟩ := p1.lp.lst_inv rl1.zn.ff
        rw [intsOf_some hn] at r
        rw [r.ints_inv] at hb
        refine ⟨b, ns, rfl, .of hb, hz, fun p c hp hc => ⟨p, _, c, rfl, upd_same, fun ns' ha hm => ?_⟩⟩
        have gr : Gr F1 H1 F1 (upd H1 p (SetO X.w p (fun j => decide (j ∈ ns)) c)) := .mine rl1.zn.ff hp
        have hu : ns'.length = (uniqI ns).length := asc_length ha (asc_nodup (uniqI_asc ns)) fun k => by
          rw [hm, uniqI_mem]
          simp
        rw [hu]
        exact k _ F1 _ (g1.trans (.of gr)) (rl1.gr gr) (.int _)
      · cases e6
    · cases e6
  | _ => cases e6
/-- sorted(set(xs)) -/
theorem fe_sortedSet {a : DM} (h : PE X e (tCB (rSortedSet X.w) (tCons (tCB (rSetLI X.K X.w) (tCons (rdL X.K a) tNil)) tNil))) : FE X e (dCallF sortedSetD (aCons a aNil)) := h.imp fun σ H Q ⟨F, B, W, env, n, ds, n', rl, e, k⟩ => by
  obtain ⟨x, n1, e1, e⟩ := bnd_some e
  obtain ⟨d, n2, e3, e4⟩ := bnd_some e1
  rw [aNil, bnd_ret] at e4
  obtain ⟨rfl, rfl⟩ := ret_some e4
  obtain ⟨e5, rfl⟩ := lift_some e
  obtain ⟨d, hx, e6⟩ := arg1F_some e5
  cases hx
  refine ⟨F, B, W, env, n, d, _, rl, e3, fun v F1 H1 g1 rl1 p1 => ?_⟩
  cases d with
  | list es =>
    simp only at e6
    split at e6
    · rename_i ns hn
      split at e6
      · rename_i hz
        cases e6
        obtain ⟨b, xs, rfl, hb, r⟩ := p1.lp.lst_inv rl1.zn.ff
        rw [intsOf_some hn] at r
        rw [r.ints_inv] at hb
        refine ⟨b, ns, rfl, .of hb, by omega, fun p c hp hc => ⟨p, _, c, rfl, upd_same, by omega, fun ns' q ha hm hl hq => ?_⟩⟩
        have hu : ns' = uniqI ns := asc_unique ha (uniqI_asc ns) fun k => by
          rw [hm, uniqI_mem]
          simp
        subst hu
        have gr : Gr F1 H1 F1 (upd H1 p (SetO X.w p (fun j => decide (j ∈ ns)) c)) := .mine rl1.zn.ff hp
        have rl2 := rl1.gr gr
        have gr2 : Gr F1 (upd H1 p (SetO X.w p (fun j => decide (j ∈ ns)) c)) F1 (upd (upd H1 p (SetO X.w p (fun j => decide (j ∈ ns)) c)) q (.lst ((uniqI ns).map V.int))) := .mine rl2.zn.ff hq
        have g2 := g1.trans (.of gr)
        exact k q _ F1 _ (g2.trans (.of gr2)) (rl2.gr gr2) (g2.keepNone rl rl2 hq) upd_same (same_none rl2.zn.ff hq) (.ints _)
      · cases e6
    · cases e6
  | _ => cases e6
end
end DL

/-! DL, part o: zip of tuples, sorted lists of pairs of ints. -/
namespace DL
open PySem PySem.Spec PyProof.Rows L2
/-! ### zip -/
def zipD : List PyData → List PyData → List PyData
  | x :: xs, y :: ys => .tuple [x, y] :: zipD xs ys
  | _, _ => []
def itemsZ (a b : DM) : AM := fun env => bnd (a env) fun x => bnd (b env) fun y => lift (match x, y with
  | .tuple xs, .tuple ys => some (zipD xs ys)
  | _, _ => none)
@[simp] theorem e_itemsZ (a b : DM) (env : DL.Env) : itemsZ a b env = bnd (a env) fun x => bnd (b env) fun y => lift (match x, y with
  | .tuple xs, .tuple ys => some (zipD xs ys)
  | _, _ => none) := (rfl)
theorem zipD_get : ∀ {xs ys : List PyData} {i : Nat}, i < (zipD xs ys).length → ∃ x y, xs[i]? = some x ∧ ys[i]? = some y ∧ (zipD xs ys)[i]? = some (.tuple [x, y])
  | x :: xs, y :: ys, 0, _ => ⟨x, y, rfl, rfl, rfl⟩
  | x :: xs, y :: ys, i + 1, h => zipD_get (xs := xs) (ys := ys) (i := i) (Nat.lt_of_succ_lt_succ h)
  | [], _, i, h => absurd h (Nat.not_lt_zero _)
  | _ :: _, [], i, h => absurd h (Nat.not_lt_zero _)
theorem zipD_end : ∀ (xs ys : List PyData), xs.length ≤ (zipD xs ys).length ∨ ys.length ≤ (zipD xs ys).length
  | x :: xs, y :: ys => by
    rcases zipD_end xs ys with h | h
    · exact .inl (Nat.succ_le_succ h)
    · exact .inr (Nat.succ_le_succ h)
  | [], _ => .inl (Nat.zero_le _)
  | _ :: _, [] => .inr (Nat.zero_le _)
section
variable {X : Cx} {tg e : Expr} {K : PySem.W.Frag}
theorem rp_get {F : Hp} : ∀ {vs : List V} {ds : List PyData}, RpAll K F vs ds → ∀ {i : Nat} {d : PyData}, ds[i]? = some d → ∃ v, vs[i]? = some v ∧ Rp K F v d
  | _, _, .nil, i, d, h => by simp at h
  | _, _, .cons h1 h2, 0, d, h => by
    simp only [List.getElem?_cons_zero, Option.some.injEq] at h
    subst h
    exact ⟨_, rfl, h1⟩
  | _, _, .cons h1 h2, i + 1, d, h => by
    simp only [List.getElem?_cons_succ] at h ⊢
    exact rp_get h2 h
theorem wk_zip {F : Hp} {a b : Addr} {xs ys : List V} {ds es : List PyData} (h1 : SqT K F a xs) (r1 : RpAll K F xs ds) (h2 : SqT K F b ys) (r2 : RpAll K F ys es) : Wk K (RZ.ItzT K a b) F (zipD ds es) := by
  refine ⟨fun i H s hi => ?_, fun H s => ?_, fun i F1 H x H' s1 s hi q => ?_⟩
  · obtain ⟨d1, d2, e1, e2, _⟩ := zipD_get hi
    obtain ⟨v1, g1, _⟩ := rp_get r1 e1
    obtain ⟨v2, g2, _⟩ := rp_get r2 e2
    exact ⟨xs, ys, v1, v2, sqt_mono s h1, sqt_mono s h2, g1, g2⟩
  · refine ⟨xs, ys, sqt_mono s h1, sqt_mono s h2, ?_⟩
    rw [r1.len, r2.len]
    exact zipD_end ds es
  · obtain ⟨T, v1, v2, rfl, hT, rfl, q1, q2⟩ := q
    obtain ⟨d1, d2, e1, e2, e3⟩ := zipD_get hi
    obtain ⟨w1, g1, p1⟩ := rp_get r1 e1
    obtain ⟨w2, g2, p2⟩ := rp_get r2 e2
    have z1 := q1 xs (sqt_mono (s1.trans s) h1)
    have z2 := q2 ys (sqt_mono (s1.trans s) h2)
    rw [g1] at z1
    rw [g2] at z2
    cases z1
    cases z2
    have gr : Gr F1 H (upd F1 T (.tup [v1, v2])) (upd H T (.tup [v1, v2])) := .new s hT
    exact ⟨_, _, e3, gr, .tup (.of upd_same) (.cons ((p1.mono s1).mono gr.f) (.cons ((p2.mono s1).mono gr.f) .nil))⟩
theorem di_zip {ma mb : DM} (h : PI X tg e (RZ.iZipA X.K (rdA X.K (aCons ma (aCons mb aNil))))) : DI X tg e (itemsZ ma mb) := h.imp fun σ H R ⟨F, B, W, env, n, ds, n', rl, e, k⟩ => by
  obtain ⟨d, n1, e1, e⟩ := bnd_some e
  obtain ⟨d2, n2, e2, e⟩ := bnd_some e
  obtain ⟨e3, rfl⟩ := lift_some e
  refine ⟨F, B, W, env, n, [d, d2], n', rl, ?_, fun vs F1 H1 s1 rl1 p1 => ?_⟩
  · simp [aCons, aNil, bnd, ret, e1, e2]
  · match d, d2, e3, p1 with
    | .tuple xs, .tuple ys, e3, p1 =>
      cases e3
      cases p1 with
      | cons q1 p2 =>
        cases p2 with
        | cons q2 p3 =>
          cases p3
          obtain ⟨a, us, rfl, ha, ra⟩ := q1.tup_inv
          obtain ⟨b, ws, rfl, hb, rb⟩ := q2.tup_inv
          exact ⟨a, b, us, ws, rfl, .inr ⟨sqt_mono rl1.zn.ff ha, sqt_mono rl1.zn.ff hb, k _ F1 H1 s1 rl1 (wk_zip ha ra hb rb)⟩⟩
end
/-! ### sorted pairs -/
def insP (x : Int × Int) : List (Int × Int) → List (Int × Int)
  | [] => [x]
  | y :: r => if SrtO.lexB y x = true then y :: insP x r else x :: y :: r
def sortP : List (Int × Int) → List (Int × Int)
  | [] => []
  | x :: r => insP x (sortP r)
theorem insP_perm (x : Int × Int) : ∀ l : List (Int × Int), (insP x l).Perm (x :: l)
  | [] => .refl _
  | y :: r => by
    unfold insP
    split
    · exact ((insP_perm x r).cons y).trans (.swap x y r)
    · exact .refl _
theorem sortP_perm : ∀ l : List (Int × Int), (sortP l).Perm l
  | [] => .refl _
  | x :: r => (insP_perm x (sortP r)).trans ((sortP_perm r).cons x)
def LeP (a b : Int × Int) : Prop := a.1 < b.1 ∨ (a.1 = b.1 ∧ a.2 ≤ b.2)
theorem leP_of {a b : Int × Int} (h : SrtO.lexB b a = false) : LeP a b := by
  have := SrtO.lexB_no.mp h
  unfold LeP
  omega
theorem insP_asc (x : Int × Int) : ∀ {l : List (Int × Int)}, l.Pairwise LeP → (insP x l).Pairwise LeP
  | [], _ => by simp [insP]
  | y :: r, h => by
    obtain ⟨h1, h2⟩ := List.pairwise_cons.mp h
    unfold insP
    split
    · rename_i c
      have c' := SrtO.lexB_iff.mp c
      refine List.pairwise_cons.mpr ⟨fun z hz => ?_, insP_asc x h2⟩
      rcases List.mem_cons.mp ((insP_perm x r).mem_iff.mp hz) with e | hz
      · rw [e]
        unfold LeP
        omega
      · exact h1 z hz
    · rename_i c
      have c' := leP_of (by simpa using c)
      refine List.pairwise_cons.mpr ⟨fun z hz => ?_, h⟩
      rcases List.mem_cons.mp hz with e | hz
      · rw [e]
        exact c'
      · have := h1 z hz
        unfold LeP at *
        omega
theorem sortP_asc : ∀ l : List (Int × Int), (sortP l).Pairwise LeP
  | [] => .nil
  | x :: r => insP_asc x (sortP_asc r)
theorem sortP_uniq {l m : List (Int × Int)} (h : l.Perm m) (a : l.Pairwise LeP) : l = sortP m :=
  List.Perm.eq_of_pairwise (fun x y _ _ h1 h2 => by
    unfold LeP at *
    exact Prod.ext (by omega) (by omega)) a (sortP_asc m) (h.trans (sortP_perm m).symm)
def twoD (p : Int × Int) : PyData := .tuple [.int p.1, .int p.2]
end DL
namespace L2
open PySem PySem.Spec PyProof.Rows DL
/-- the two ints of a tuple, in a heap -/
def pairAt (h : Heap) (x : V) : Int × Int := match x with
  | .ref t => match h.get? t with
    | some o => match o.data with
      | .seq its _ => match its.toList with
        | [.int i _, .int j _] => (i, j)
        | _ => (0, 0)
      | _ => (0, 0)
    | none => (0, 0)
  | _ => (0, 0)
def rSortedPT (K : PySem.W.Frag) : List V → Hp → VK → Prop := fun vs H Q => ∃ (F : Hp) (a : Addr) (xs : List V) (ps : List (Int × Int)), vs = [V.ref a] ∧ Same F H ∧ SqL K H a xs ∧ RpAll K F xs (ps.map twoD) ∧
  ∀ ys p, RpAll K F ys ((sortP ps).map twoD) → H p = none → Q (.ref p) (upd H p (.lst ys))
section
variable {X : Cx}
theorem pairAt_of {pins : List (Addr × Obj)} {σ : St} {H F : Hp} {s : Shared} (I : Inv X pins σ H s) (sm : Same F H) {x : V} {p : Int × Int} (h : Rp X.K F x (twoD p)) :
    pairAt s.heap x = p ∧ ∃ t o t1 t2 n, x = .ref t ∧ s.heap.get? t = some o ∧ o.cls = .type "tuple" ∧ o.data = .seq #[.int p.1 t1, .int p.2 t2] n := by
  obtain ⟨t, us, rfl, ht, hr⟩ := h.tup_inv
  have e : us = [.int p.1, .int p.2] := hr.ints_inv (ns := [p.1, p.2])
  subst e
  obtain ⟨its, r2, ⟨o, ho, hc, n, hd⟩, _⟩ := I.tuple (sqt_mono sm ht)
  obtain ⟨u1, u2, rfl, ri, rj⟩ := vals2 r2
  obtain ⟨t1, rfl⟩ := ri
  obtain ⟨t2, rfl⟩ := rj
  refine ⟨?_, t, o, t1, t2, n, rfl, ho, hc, hd⟩
  unfold pairAt
  simp [ho, hd]
theorem pairAt_all {pins : List (Addr × Obj)} {σ : St} {H F : Hp} {s : Shared} (I : Inv X pins σ H s) (sm : Same F H) : ∀ {xs : List V} {ps : List (Int × Int)}, RpAll X.K F xs (ps.map twoD) → xs.map (pairAt s.heap) = ps ∧ ∀ x ∈ xs, Rp X.K F x (twoD (pairAt s.heap x))
  | [], [], _ => ⟨rfl, fun _ h => nomatch h⟩
  | x :: xs, [], h => by cases h
  | [], p :: ps, h => by cases h
  | x :: xs, p :: ps, .cons h1 h2 => by
    obtain ⟨e1, e2⟩ := pairAt_all I sm h2
    have e := (pairAt_of I sm h1).1
    refine ⟨by rw [List.map_cons, e, e1], fun y hy => ?_⟩
    rcases List.mem_cons.mp hy with rfl | hy
    · rw [e]
      exact h1
    · exact e2 y hy
theorem rp_map {K : PySem.W.Frag} {F : Hp} (f : V → PyData) : ∀ {ys : List V}, (∀ y ∈ ys, Rp K F y (f y)) → RpAll K F ys (ys.map f)
  | [], _ => .nil
  | y :: ys, h => .cons (h y List.mem_cons_self) (rp_map f fun z hz => h z (List.mem_cons_of_mem _ hz))
theorem cr_sortedPT : CallR X (.builtin "sorted") (rSortedPT X.K) := by
  intro pins s σ H vs us Q I r h
  obtain ⟨F, a, xs, ps, rfl, sm, hs, hr, q⟩ := h
  obtain ⟨its, rv, hl, hz⟩ := I.list hs
  obtain ⟨u, rfl, ru⟩ := vals1 r
  obtain rfl : u = Value.ref a := ru
  obtain ⟨ep, er⟩ := pairAt_all I sm hr
  obtain ⟨e1, e2⟩ := refs_back rv fun x m => by
    obtain ⟨_, t, o, t1, t2, n, e, _⟩ := pairAt_of I sm (er x m)
    exact ⟨t, e⟩
  refine SrtO.sorted_pairsO (k := fun u => pairAt s.heap (backV u)) hl.isList (by rw [← rv.length]; exact hz) (fun v hv => ?_) fun h' d out h1 h2 kp hd hn => ?_
  · obtain ⟨t, rfl⟩ := e2 v hv
    have hm : V.ref t ∈ xs := by rw [e1]; exact List.mem_map.mpr ⟨_, hv, rfl⟩
    obtain ⟨_, t', o, t1, t2, n, e, ho, hc, hd⟩ := pairAt_of I sm (er _ hm)
    cases e
    exact ⟨t, o, t1, t2, n, rfl, ho, hc, hd⟩
  · have h3 : ∀ u ∈ out, ∃ a, u = Value.ref a := fun u hu => e2 u (h2.perm.mem_iff.mp hu)
    obtain ⟨n, hn⟩ := hn
    have hperm : (out.map backV).Perm xs := by
      rw [e1]
      exact h2.perm.map backV
    have hasc : ((out.map backV).map (pairAt s.heap)).Pairwise LeP := by
      rw [List.map_map]
      exact List.pairwise_map.mpr (h1.imp fun hh => leP_of hh)
    have hq : (out.map backV).map (pairAt s.heap) = sortP ps := sortP_uniq (by rw [← ep]; exact hperm.map _) hasc
    have hrp : RpAll X.K F (out.map backV) ((sortP ps).map twoD) := by
      rw [← hq, List.map_map]
      exact rp_map _ fun y hy => er y (hperm.mem_iff.mp hy)
    refine ⟨.ref d, upd H d (.lst (out.map backV)), I.laid (t' := s.toks) kp hd ⟨?_, out, n, vals_back h3, hn⟩, rfl, q _ d hrp (I.hok.fresh hd)⟩
    rw [hperm.length_eq]
    exact hz
end
end L2
namespace DL
open PySem PySem.Spec PyProof.Rows L2
def pairsD : List PyData → Option (List (Int × Int))
  | [] => some []
  | d :: ds => match d with
    | .tuple [.int i, .int j] => match pairsD ds with
      | some r => some ((i, j) :: r)
      | none => none
    | _ => none
theorem pairsD_some : ∀ {ds : List PyData} {ps : List (Int × Int)}, pairsD ds = some ps → ds = ps.map twoD
  | [], ps, h => by
    cases h
    rfl
  | d :: ds, ps, h => by
    unfold pairsD at h
    split at h
    · split at h
      · rename_i r hr
        cases h
        rw [pairsD_some hr]
        rfl
      · cases h
    · cases h
@[simp] theorem pairsD_map : ∀ ps : List (Int × Int), pairsD (ps.map twoD) = some ps
  | [] => rfl
  | p :: ps => by
    have := pairsD_map ps
    rw [List.map_cons]
    show (match pairsD (ps.map twoD) with
      | some r => some ((p.1, p.2) :: r)
      | none => none) = _
    rw [this]
def sortedPD := arg1F fun d => match d with
  | .list ds => match pairsD ds with
    | some ps => some ((sortP ps).map twoD)
    | none => none
  | _ => none
theorem r_sortedP {K : PySem.W.Frag} : RCF K (rSortedPT K) sortedPD := fun F H vs ds d Q s p' e' k => by
  obtain ⟨x, rfl, e⟩ := arg1F_some e'
  obtain ⟨v, rfl, p⟩ := p'.one
  split at e
  · split at e
    · rename_i ps hn
      cases e
      obtain ⟨a, xs, rfl, h, r⟩ := p.lst_inv s
      rw [pairsD_some hn] at r
      exact ⟨F, a, xs, ps, rfl, s, .of h, r, fun ys p ry hp => k p ys hp ry⟩
    · cases e
  · cases e
end DL

/-! DL, part p: dicts with keys of one int or text. -/
namespace L2
open PySem PySem.Spec PyProof.Rows
section
variable {X : Cx}
/-- d.update(o) of two dicts -/
def rUpdD : V → List V → Hp → VK → Prop := fun x vs H Q => ∃ (d o : Addr) (kvs more : List (Key × V)), x = .ref d ∧ vs = [.ref o] ∧ H d = some (.dK kvs) ∧ H o = some (.dK more) ∧ d ≠ o ∧ kvs.length + more.length ≤ sizeLine ∧ Q .non (upd H d (.dK (mergeK kvs more)))
theorem mt_dupdate : MtR X "dict.update" rUpdD := by
  intro pins s σ H x xs v us Q I rx rxs h
  obtain ⟨d, o, kvs, more, rfl, rfl, hd, ho, hne, hz, q⟩ := h
  cases rx
  obtain ⟨u, rfl, ru⟩ := rxs.one
  cases ru
  obtain ⟨z1, m1, vs1, r1, d1⟩ := dk_of I.hok hd
  obtain ⟨z2, m2, vs2, r2, d2⟩ := dk_of I.hok ho
  refine call_meetsIn PySem.F.slot_dict_update d1.typeIs PySem.F.entry_dict_update (PySem.F.args_dict_update_2 _ _) (meets_dict_update (mixKind X.prog X.w) d o hne m2) ⟨vs1, vs2, d1, d2, by rw [← r1.length, ← r2.length]; exact hz, fun h' dd dd2 hs => ?_⟩
  have hz2 : (mergeK kvs more).length ≤ sizeLine := Nat.le_trans (length_mergeK more kvs) hz
  have he : ∃ q, h'.get? d = some q := let ⟨q, _, _, hq, _⟩ := dd; ⟨q, hq⟩
  exact ⟨.non, _, d_write I (by rw [hd]; exact True.intro) hs he (dk_new hz2 m1 (r2.merge r1) dd), rfl, q⟩
end
end L2
namespace DL
open PySem PySem.Spec PyProof.Rows L2
/-! ### what dicts are as data -/
def keyOfD : PyData → Option Key
  | .int i => some (.inl i)
  | .str x => some (.inr x)
  | _ => none
theorem keyOf_keyD (k : Key) : keyOfD (keyD k) = some k := by cases k <;> rfl
theorem keyOf_some {d : PyData} {k : Key} (h : keyOfD d = some k) : d = keyD k := by
  cases d <;> cases h <;> rfl
theorem Rp.kV_inv {K : PySem.W.Frag} {F : Hp} {v : V} {k : Key} (h : Rp K F v (keyD k)) : v = kV k := by
  cases k with
  | inl i => exact h.int_inv
  | inr x => cases h; rfl
abbrev Kvs := List (PyData × PyData)
def lookD (ds : Kvs) (k : Key) : Option PyData := match ds with
  | [] => none
  | (x, d) :: r => if keyOfD x = some k then some d else lookD r k
def putAll (ds : Kvs) (k : Key) (d : PyData) : Kvs := ds.map fun p => if keyOfD p.1 = some k then (p.1, d) else p
def putD (ds : Kvs) (k : Key) (d : PyData) : Kvs := if (lookD ds k).isSome = true then putAll ds k d else ds ++ [(keyD k, d)]
def mergeD (ds : Kvs) (es : List (Key × PyData)) : Kvs := es.foldl (fun acc p => putD acc p.1 p.2) ds
section
variable {K : PySem.W.Frag} {F : Hp}
theorem look_rp (k : Key) : ∀ {kvs : List (Key × V)} {ds : Kvs}, RpKv K F kvs ds → (valV kvs k = none ∧ lookD ds k = none) ∨ ∃ v d, valV kvs k = some v ∧ lookD ds k = some d ∧ Rp K F v d
  | _, _, .nil => .inl ⟨rfl, rfl⟩
  | _, _, .cons (k := k') h r => by
    by_cases e : k' = k
    · subst e
      exact .inr ⟨_, _, valV_pos rfl, by simp [lookD, keyOf_keyD], h⟩
    · rw [valV_neg e]
      have : ¬ keyOfD (keyD k') = some k := fun z => by
        rw [keyOf_keyD] at z
        exact e (Option.some.inj z)
      simp only [lookD, if_neg this]
      exact look_rp k r
theorem putAll_rp (k : Key) {v : V} {d : PyData} (h : Rp K F v d) : ∀ {kvs : List (Key × V)} {ds : Kvs}, RpKv K F kvs ds → RpKv K F (kvs.map fun kv => if kv.1 = k then (kv.1, v) else kv) (putAll ds k d)
  | _, _, .nil => .nil
  | _, _, .cons (k := k') h' r => by
    have ih := putAll_rp k h r
    by_cases e : k' = k
    · subst e
      simp only [List.map_cons, putAll, if_true, keyOf_keyD]
      exact .cons h ih
    · have : ¬ keyOfD (keyD k') = some k := fun z => by
        rw [keyOf_keyD] at z
        exact e (Option.some.inj z)
      simp only [List.map_cons, putAll, if_neg e, if_neg this]
      exact .cons h' ih
theorem snoc_rp {k : Key} {v : V} {d : PyData} (h : Rp K F v d) : ∀ {kvs : List (Key × V)} {ds : Kvs}, RpKv K F kvs ds → RpKv K F (kvs ++ [(k, v)]) (ds ++ [(keyD k, d)])
  | _, _, .nil => .cons h .nil
  | _, _, .cons h' r => .cons h' (snoc_rp h r)
theorem put_rp {k : Key} {v : V} {d : PyData} (h : Rp K F v d) {kvs : List (Key × V)} {ds : Kvs} (r : RpKv K F kvs ds) : RpKv K F (putK kvs k v) (putD ds k d) := by
  unfold putK putD
  rw [valV_any]
  rcases look_rp k r with ⟨e1, e2⟩ | ⟨v', d', e1, e2, _⟩
  · rw [e1, e2]
    exact snoc_rp h r
  · rw [e1, e2]
    exact putAll_rp k h r
theorem put_nodup (k : Key) (v : V) {kvs : List (Key × V)} (h : (kvs.map (·.1)).Nodup) : ((putK kvs k v).map (·.1)).Nodup := by
  unfold putK
  rw [valV_any]
  cases e : valV kvs k with
  | some x =>
    simp only [Option.isSome_some, if_true]
    rw [List.map_map]
    have : ((fun kv : Key × V => kv.1) ∘ fun kv => if kv.1 = k then (kv.1, v) else kv) = fun kv => kv.1 := by
      funext kv
      show (if kv.1 = k then (kv.1, v) else kv).1 = kv.1
      split <;> rfl
    rw [this]
    exact h
  | none =>
    simp only [Option.isSome_none, Bool.false_eq_true, if_false]
    rw [List.map_append]
    refine List.nodup_append.mpr ⟨h, by simp, fun x hx y hy => ?_⟩
    have : y = k := by simpa using hy
    subst this
    intro z
    subst z
    obtain ⟨kv, hm, rfl⟩ := List.mem_map.mp hx
    have q : (kvs.any fun p => decide (p.1 = kv.1)) = true := List.any_eq_true.mpr ⟨kv, hm, by simp⟩
    rw [valV_any, e] at q
    cases q
inductive RpKd (K : PySem.W.Frag) (F : Hp) : List (Key × V) → List (Key × PyData) → Prop
  | nil : RpKd K F [] []
  | cons {k : Key} {v : V} {vs : List (Key × V)} {d : PyData} {ds : List (Key × PyData)} : Rp K F v d → RpKd K F vs ds → RpKd K F ((k, v) :: vs) ((k, d) :: ds)
theorem merge_rp : ∀ {more : List (Key × V)} {es : List (Key × PyData)} {kvs : List (Key × V)} {ds : Kvs}, RpKd K F more es → RpKv K F kvs ds → (kvs.map (·.1)).Nodup → RpKv K F (mergeK kvs more) (mergeD ds es) ∧ ((mergeK kvs more).map (·.1)).Nodup
  | _, _, kvs, ds, .nil, r, n => ⟨r, n⟩
  | _, _, kvs, ds, .cons (k := k) (v := v) (d := d) h t, r, n => by
    have := merge_rp t (put_rp (k := k) h r) (put_nodup k v n)
    exact this
end
/-- a dict's pairs by key -/
def kdOf : Kvs → Option (List (Key × PyData))
  | [] => some []
  | (x, d) :: r => match keyOfD x, kdOf r with
    | some k, some t => some ((k, d) :: t)
    | _, _ => none
theorem kd_rp {K : PySem.W.Frag} {F : Hp} : ∀ {kvs : List (Key × V)} {ds : Kvs}, RpKv K F kvs ds → ∃ es, kdOf ds = some es ∧ RpKd K F kvs es
  | _, _, .nil => ⟨[], rfl, .nil⟩
  | _, _, .cons (k := k) h r => by
    obtain ⟨es, e1, e2⟩ := kd_rp r
    exact ⟨_, by simp only [kdOf, keyOf_keyD, e1], .cons h e2⟩
/-- pairs from a list of tuples -/
def pairsK : List PyData → Option (List (Key × PyData))
  | [] => some []
  | x :: r => match x with
    | .tuple [a, d] => match keyOfD a, pairsK r with
      | some k, some t => some ((k, d) :: t)
      | _, _ => none
    | _ => none
theorem kv_keys {K : PySem.W.Frag} {F : Hp} : ∀ {kvs : List (Key × V)} {ds : Kvs}, RpKv K F kvs ds → ∀ p ∈ ds, (keyOfD p.1).isSome = true
  | _, _, .nil, p, h => nomatch h
  | _, _, .cons _ r, p, h => by
    rcases List.mem_cons.mp h with rfl | h
    · rw [keyOf_keyD]
      rfl
    · exact kv_keys r p h
/-- keys of one int or text, one at least -/
def isK (ds : Kvs) : Bool := !ds.isEmpty && ds.all fun p => (keyOfD p.1).isSome
theorem tv_notK {K : PySem.W.Frag} {F : Hp} {kvs : List (List Key × V)} {ds : Kvs} (r : RpTv K F kvs ds) (h : isK ds = true) : False := by
  cases r with
  | nil => cases h
  | cons h' r =>
    unfold isK at h
    simp [keyOfD] at h
theorem Rp.dict_inv {K : PySem.W.Frag} {F : Hp} {v : V} {ds : Kvs} (h : Rp K F v (.dict ds)) (hk : isK ds = true) : ∃ a kvs, v = .ref a ∧ F a = some (.dK kvs) ∧ (kvs.map (·.1)).Nodup ∧ RpKv K F kvs ds := by
  cases h with
  | dK h1 h2 h3 => exact ⟨_, _, rfl, h1, h2, h3⟩
  | dT h1 h2 h3 => exact (tv_notK h3 hk).elim
section
variable {X : Cx} {e i o : Expr}
/-- k in d -/
def inKD (neg : Bool) (x y : PyData) : Option PyData := match y with
  | .dict ds => match keyOfD x with
    | some k => if isK ds = true then some (.bool (if neg then !(lookD ds k).isSome else (lookD ds k).isSome)) else none
    | none => none
  | _ => none
def dInK (a b : DM) : DM := dOp (inKD false) a b
def dNotInK (a b : DM) : DM := dOp (inKD true) a b
theorem rd_in {K : PySem.W.Frag} {neg : Bool} {a b : DM} {σ : L2.St} {H : Hp} {Q : VK} (h : rdE K (dOp (inKD neg) a b) σ H Q) : (fun σ H Q => rdE K a σ H fun y H1 => rdE K b σ H1 fun x H2 => ∃ a o, x = .ref a ∧ DGet H2 a y o ∧ Q (.bl (if neg then !o.isSome else o.isSome)) H2) σ H Q := by
  obtain ⟨F, B, W, env, n, d, n', rl, e, k⟩ := h
  obtain ⟨x, n1, e1, e⟩ := bnd_some e
  obtain ⟨y, n2, e2, e⟩ := bnd_some e
  obtain ⟨e3, rfl⟩ := lift_some e
  refine ⟨F, B, W, env, n, x, n1, rl, e1, fun v1 F1 H1 g1 rl1 p1 => ⟨F1, B, W, env, n1, y, _, rl1, e2, fun v2 F2 H2 g2 rl2 p2 => ?_⟩⟩
  match y, e3, p2 with
  | .dict ds, e3, p2 =>
    unfold inKD at e3
    cases hk : keyOfD x with
    | none => simp only [hk] at e3; cases e3
    | some k0 =>
      simp only [hk] at e3
      by_cases c : isK ds = true
      · rw [if_pos c] at e3
        cases e3
        obtain ⟨a, kvs, rfl, ha, _, r⟩ := p2.dict_inv c
        have hx := keyOf_some hk
        subst hx
        rw [p1.kV_inv]
        refine ⟨a, valV kvs k0, rfl, .k (rl2.zn.ff _ _ ha), ?_⟩
        have q := k (.bl (if neg then !(lookD ds k0).isSome else (lookD ds k0).isSome)) F2 H2 (g1.trans g2) rl2 (.bl _)
        rcases look_rp k0 r with ⟨q1, q2⟩ | ⟨v', d', q1, q2, _⟩
        · rw [q1]
          rw [q2] at q
          exact q
        · rw [q1]
          rw [q2] at q
          exact q
      · rw [if_neg c] at e3
        cases e3
theorem rd_inD {K : PySem.W.Frag} {a b : DM} {σ : L2.St} {H : Hp} {Q : VK} (h : rdE K (dInK a b) σ H Q) : tDIn (rdE K a) (rdE K b) σ H Q := rd_in (neg := false) h
theorem rd_ninD {K : PySem.W.Frag} {a b : DM} {σ : L2.St} {H : Hp} {Q : VK} (h : rdE K (dNotInK a b) σ H Q) : tDNotIn (rdE K a) (rdE K b) σ H Q := rd_in (neg := true) h
theorem de_din {a b : DM} (h : PE X e (tDIn (rdE X.K a) (rdE X.K b))) : DE X e (dInK a b) := h.imp fun _ _ _ h => rd_inD h
theorem de_dnotin {a b : DM} (h : PE X e (tDNotIn (rdE X.K a) (rdE X.K b))) : DE X e (dNotInK a b) := h.imp fun _ _ _ h => rd_ninD h
/-- dict([(k, v), ..]) -/
def dictPD := arg1 fun d => match d with
  | .list ds => match pairsK ds with
    | some es => some (.dict (mergeD [] es))
    | none => none
  | _ => none
theorem pairsK_rp {K : PySem.W.Frag} {F : Hp} : ∀ {xs : List V} {ds : List PyData} {es : List (Key × PyData)}, RpAll K F xs ds → pairsK ds = some es → ∃ (ps : List Addr) (kvs : List (Key × V)), xs = ps.map V.ref ∧ Paired (fun p kv => SqT K F p [kV kv.1, kv.2]) ps kvs ∧ RpKd K F kvs es
  | _, _, es, .nil, h => by
    cases h
    exact ⟨[], [], rfl, .nil, .nil⟩
  | _, _, es, .cons (d := d) h r, e => by
    unfold pairsK at e
    split at e
    · rename_i a d'
      split at e
      · rename_i k t hk ht
        cases e
        obtain ⟨ps, kvs, e1, e2, e3⟩ := pairsK_rp r ht
        obtain ⟨b, us, rfl, hb, hr⟩ := h.tup_inv
        cases hr with
        | cons h1 h2 =>
          cases h2 with
          | cons h2 h3 =>
            cases h3
            have hx := keyOf_some hk
            subst hx
            rw [h1.kV_inv] at hb
            exact ⟨b :: ps, (k, _) :: kvs, by rw [e1]; rfl, .cons hb e2, .cons h2 e3⟩
      · cases e
    · cases e
theorem paired_mono {K : PySem.W.Frag} {F H : Hp} (s : Same F H) : ∀ {ps : List Addr} {kvs : List (Key × V)}, Paired (fun p kv => SqT K F p [kV kv.1, kv.2]) ps kvs → Paired (fun p kv => SqT K H p [kV kv.1, kv.2]) ps kvs
  | _, _, .nil => .nil
  | _, _, .cons h t => .cons (sqt_mono s h) (paired_mono s t)
def rDictP (K : PySem.W.Frag) : List V → Hp → VK → Prop := fun xs H Q => ∃ (a : Addr) (ps : List Addr) (kvs : List (Key × V)), xs = [.ref a] ∧ SqL K H a (ps.map V.ref) ∧ Paired (fun p kv => SqT K H p [kV kv.1, kv.2]) ps kvs ∧ ∀ p, H p = none → Q (.ref p) (upd H p (.dK (mergeK [] kvs)))
theorem cr_dictP (hc : X.calm = true) : CallR X (.type "dict") (rDictP X.K) := call_dictP hc
theorem r_dictP {K : PySem.W.Frag} : RCD K (rDictP K) dictPD := fun F H vs ds d Q s p' e' k => by
  obtain ⟨x, rfl, e⟩ := arg1_some e'
  obtain ⟨v, rfl, p⟩ := p'.one
  match x, e, p with
  | .list es, e, p =>
    dsimp only at e
    split at e
    · rename_i kd hn
      cases e
      obtain ⟨a, xs, rfl, h, r⟩ := p.lst_inv s
      obtain ⟨ps, kvs, e1, e2, e3⟩ := pairsK_rp r hn
      subst e1
      refine ⟨a, ps, kvs, rfl, .of h, paired_mono s e2, fun q hq => ?_⟩
      obtain ⟨m1, m2⟩ := merge_rp (kvs := []) (ds := []) e3 .nil (by simp)
      have gr : Gr F H (upd F q (.dK (mergeK [] kvs))) (upd H q (.dK (mergeK [] kvs))) := .new s hq
      exact k _ _ _ gr (.dK upd_same m2 (m1.mono gr.f))
    · cases e
end
/-! ### one's own dict -/
def getK (env : DL.Env) (i : Nat) : Option Kvs := match env[i]? with
  | some (some (.dct ds)) => some ds
  | _ => none
theorem getK_some {env : DL.Env} {i : Nat} {ds : Kvs} (h : getK env i = some ds) : env[i]? = some (some (.dct ds)) := by
  unfold getK at h
  split at h
  · cases h; assumption
  · cases h
/-- what stands at one's own dict -/
def DctAt (K : PySem.W.Frag) (F : Hp) (o : HO) (ds : Kvs) : Prop := (∃ xs, o = .dK xs ∧ (xs.map (·.1)).Nodup ∧ RpKv K F xs ds) ∨ ∃ xs ks, ds = (.none, .none) :: ks ∧ o = .dT xs ∧ (xs.map (·.1)).Nodup ∧ RpTv K F xs ks
theorem Rl.updDct {K : PySem.W.Frag} {F B H : Hp} {W : Option Wl} {σ : L2.St} {env : DL.Env} {n : Nat} {a : Addr} {ds ds' : Kvs} {o : HO} {i : Nat} (r : Rl K F B W σ H env n) (he : env[i]? = some (some (.dct ds))) (hs : σ[i]? = some (some (.ref a)))
    (r' : DctAt K F o ds') : Rl K F B W σ (upd H a o) (env.set i (some (.dct ds'))) n := by
  obtain ⟨v, h1, b, rfl, fa, ⟨ba, wa⟩, hH⟩ := r.sl i _ he
  rw [hs] at h1
  cases h1
  have hi := (List.getElem?_eq_some_iff.mp he).1
  refine ⟨⟨same_mut r.zn.ff fa, same_mut r.zn.bb ba, r.zn.dj⟩, ?_, fun j e hj => ?_, fun j k e e' u hjk h1 h2 m1 m2 h3 h4 => ?_, by simp [r.le]⟩
  · have q := r.wo
    cases W with
    | none => trivial
    | some w =>
      obtain ⟨h1, h2, h3⟩ := q
      refine ⟨Wl.upd_now h1 (wa w rfl) ?_, h2, h3⟩
      rcases hH with ⟨xs, z, _⟩ | ⟨xs, ks, _, z, _⟩
      · exact Wl.dK_code z
      · exact Wl.dT_code z
  · by_cases hij : i = j
    · subst hij
      rw [List.getElem?_set_self hi] at hj
      cases hj
      refine ⟨_, hs, a, rfl, fa, ⟨ba, wa⟩, ?_⟩
      rcases r' with ⟨xs, rfl, q1, q2⟩ | ⟨xs, ks, ek, rfl, q1, q2⟩
      · exact .inl ⟨xs, upd_same, q1, q2⟩
      · exact .inr ⟨xs, ks, ek, upd_same, q1, q2⟩
    · rw [List.getElem?_set_ne hij] at hj
      obtain ⟨v, h1, h2⟩ := r.sl j e hj
      refine ⟨v, h1, ?_⟩
      cases e with
      | val d => exact h2
      | own es =>
        obtain ⟨c, ys, rfl, q1, q2⟩ := h2
        have : c ≠ a := fun z => r.ap j i _ _ _ (Ne.symm hij) hj he rfl rfl h1 (by rw [z]; exact hs)
        exact ⟨c, ys, rfl, by rw [upd_ne this]; exact q1, q2⟩
      | dct kvs =>
        obtain ⟨c, rfl, q1, q2, q3⟩ := h2
        have : c ≠ a := fun z => r.ap j i _ _ _ (Ne.symm hij) hj he rfl rfl h1 (by rw [z]; exact hs)
        refine ⟨c, rfl, q1, q2, ?_⟩
        rw [upd_ne this]
        exact q3
      | wdr ws => exact h2
      | scr ns => exact h2
      | tabv d => exact h2
  · have back : ∀ (j : Nat) (e : En), (env.set i (some (.dct ds')))[j]? = some (some e) → e.mut = true → ∃ e0 : En, env[j]? = some (some e0) ∧ e0.mut = true := fun j e hj hm => by
      by_cases hij : i = j
      · subst hij
        exact ⟨_, he, rfl⟩
      · rw [List.getElem?_set_ne hij] at hj
        exact ⟨e, hj, hm⟩
    obtain ⟨e1, q1, q2⟩ := back j e h1 m1
    obtain ⟨e2, q3, q4⟩ := back k e' h2 m2
    exact r.ap j k e1 e2 u hjk q1 q3 q2 q4 h3 h4
def frzD (env : DL.Env) (i : Nat) : DL.Env := match getK env i with
  | some ((.none, .none) :: ds) => env.set i (some (.val (.dict ds)))
  | some ds => env.set i (some (.val (.dict ds)))
  | none => env
def sFrzD (i : Nat) (s : SM) : SM := fun env => s (frzD env i)
theorem Rl.frzD {K : PySem.W.Frag} {F B H : Hp} {W : Option Wl} {σ : L2.St} {env : DL.Env} {n : Nat} (i : Nat) (r : Rl K F B W σ H env n) : ∃ F', Same F F' ∧ Rl K F' B W σ H (DL.frzD env i) n := by
  unfold DL.frzD
  cases ho : getK env i with
  | none => exact ⟨F, .refl _, r⟩
  | some ds =>
    have he := getK_some ho
    obtain ⟨v, h1, a, rfl, fa, ⟨ba, wa⟩, hH⟩ := r.sl i _ he
    have hi := (List.getElem?_eq_some_iff.mp he).1
    have r0 : Rl K F B W σ H (env.set i none) n := by
      refine ⟨r.zn, r.wo, fun j e hj => ?_, fun j k e e' u hjk h1 h2 m1 m2 h3 h4 => ?_, by simp [r.le]⟩
      · by_cases hij : i = j
        · subst hij
          rw [List.getElem?_set_self hi] at hj
          cases hj
        · rw [List.getElem?_set_ne hij] at hj
          exact r.sl j e hj
      · have back : ∀ (j : Nat) (e : En), (env.set i none)[j]? = some (some e) → env[j]? = some (some e) := fun j e hj => by
          by_cases hij : i = j
          · subst hij
            rw [List.getElem?_set_self hi] at hj
            cases hj
          · rw [List.getElem?_set_ne hij] at hj
            exact hj
        exact r.ap j k e e' u hjk (back j e h1) (back k e' h2) m1 m2 h3 h4
    have o : ∀ (j : Nat) (e : En), (env.set i none)[j]? = some (some e) → e.mut = true → σ[j]? ≠ some (some (.ref a)) := fun j e hj hm z => by
      by_cases hij : i = j
      · subst hij
        rw [List.getElem?_set_self hi] at hj
        cases hj
      · rw [List.getElem?_set_ne hij] at hj
        exact r.ap i j _ _ _ hij he hj rfl hm h1 z
    have hσ : σ.set i (some (V.ref a)) = σ := by
      apply List.ext_getElem?
      intro j
      by_cases hij : i = j
      · subst hij
        rw [List.getElem?_set_self (by rw [← r.le]; exact hi), h1]
      · rw [List.getElem?_set_ne hij]
    rcases hH with ⟨xs, h2, h3, h4⟩ | ⟨xs, ks, rfl, h2, h3, h4⟩
    · have s : Same F (upd F a (.dK xs)) := same_new fa
      have r1 := (r0.freeze h2 fa ba wa o).set i (.dK upd_same h3 (h4.mono s) : Rp K (upd F a (.dK xs)) (.ref a) (.dict ds))
      rw [List.set_set, hσ] at r1
      refine ⟨_, s, ?_⟩
      split
      · rename_i e1
        cases e1
        have := kv_keys h4 _ List.mem_cons_self
        cases this
      · rename_i e1
        cases e1
        exact r1
      · rename_i e1
        cases e1
    · have s : Same F (upd F a (.dT xs)) := same_new fa
      have r1 := (r0.freeze h2 fa ba wa o).set i (.dT upd_same h3 (h4.mono s) : Rp K (upd F a (.dT xs)) (.ref a) (.dict ks))
      rw [List.set_set, hσ] at r1
      exact ⟨_, s, r1⟩
section
variable {X : Cx} {st : Stmt}
theorem ds_frzD {i : Nat} {s : SM} (h : DS X st s) : DS X st (sFrzD i s) := h.imp fun D σ H ⟨F, B, W, env, n, r, n', rl, e, k⟩ => by
  obtain ⟨F', sf, rl'⟩ := rl.frzD i
  exact ⟨F', B, W, _, n, r, n', rl', e, k.mono sf⟩
/-- x = dict(y): a copy of one's own -/
def sDcopy (i : Nat) (m : DM) : SM := fun env => bnd (m env) fun d => match d with
  | .dict ds => if isK ds = true then ret (.nx (env.set i (some (.dct ds)))) else fail
  | _ => fail
def rDictD : List V → Hp → VK → Prop := fun xs H Q => ∃ (a : Addr) (kvs : List (Key × V)), xs = [.ref a] ∧ Rd H a (.dK kvs) ∧ ∀ p, H p = none → Q (.ref p) (upd H p (.dK kvs))
theorem cr_dictD : CallR X (.type "dict") rDictD := call_dictD
theorem ds_dcopy {i : Nat} {m : DM} (h : PS X st (tAsg (tCB rDictD (tCons (rdE X.K m) tNil)) (gName i))) : DS X st (sDcopy i m) := h.imp fun D σ H ⟨F, B, W, env, n, r, n', rl, e, k⟩ => by
  obtain ⟨d, n1, e1, e⟩ := bnd_some e
  match d, e1, e with
  | .dict ds, e1, e =>
    dsimp only at e
    by_cases c : isK ds = true
    · rw [if_pos c] at e
      obtain ⟨rfl, rfl⟩ := ret_some e
      refine ⟨F, B, W, env, n, _, _, rl, e1, fun v F1 H1 g rl1 p1 => ?_⟩
      obtain ⟨a, kvs, rfl, ha, hn, hr⟩ := p1.dict_inv c
      refine ⟨a, kvs, rfl, .inl (rl1.zn.ff _ _ ha), fun q hq => ?_⟩
      have gr : Gr F1 H1 F1 (upd H1 q (.dK kvs)) := .mine rl1.zn.ff hq
      exact k _ F1 _ g.f ((rl1.gr gr).setOwn i ⟨q, rfl, same_none rl1.zn.ff hq, ⟨same_none rl1.zn.bb hq, rl1.wo.ne hq⟩, .inl ⟨kvs, upd_same, hn, hr⟩⟩ (fresh_ne rl1 hq i))
    · rw [if_neg c] at e
      cases e
/-- x.update(y) of one's own -/
def sUpdD (i : Nat) (m : DM) : SM := fun env => bnd (m env) fun d => match getK env i, d with
  | some ds, .dict es => match kdOf es with
    | some kd => if isK ds = true ∧ isK es = true ∧ ds.length + es.length ≤ lim then ret (.nx (env.set i (some (.dct (mergeD ds kd))))) else fail
    | none => fail
  | _, _ => fail
theorem kv_len {K : PySem.W.Frag} {F : Hp} : ∀ {kvs : List (Key × V)} {ds : Kvs}, RpKv K F kvs ds → kvs.length = ds.length
  | _, _, .nil => rfl
  | _, _, .cons _ r => by rw [List.length_cons, List.length_cons, kv_len r]
theorem dct_at {K : PySem.W.Frag} {F B H : Hp} {W : Option Wl} {σ : L2.St} {env : DL.Env} {n i : Nat} {ds : Kvs} (r : Rl K F B W σ H env n) (h : getK env i = some ds) (c : isK ds = true) : ∃ a kvs, σ[i]? = some (some (.ref a)) ∧ H a = some (.dK kvs) ∧ (kvs.map (·.1)).Nodup ∧ RpKv K F kvs ds ∧ F a = none := by
  obtain ⟨v, h1, a, rfl, fa, _, hH⟩ := r.sl i _ (getK_some h)
  rcases hH with ⟨xs, h2, h3, h4⟩ | ⟨xs, ks, ek, h2, h3, h4⟩
  · exact ⟨a, xs, h1, h2, h3, h4, fa⟩
  · subst ek
    cases c
theorem ds_updD {i : Nat} {m : DM} (h : PS X st (tDrop (tBM X.K "dict" rUpdD (tVar i) (tCons (rdE X.K m) tNil)))) : DS X st (sUpdD i m) := h.imp fun D σ H ⟨F, B, W, env, n, r, n', rl, e, k⟩ => by
  obtain ⟨d, n1, e1, e⟩ := bnd_some e
  cases ho : getK env i with
  | none =>
    simp only [ho, fail] at e
    cases e
  | some ds =>
    cases d with
    | dict es =>
      simp only [ho] at e
      cases hk : kdOf es with
      | none =>
        simp only [hk, fail] at e
        cases e
      | some kd =>
        simp only [hk] at e
        by_cases c : isK ds = true ∧ isK es = true ∧ ds.length + es.length ≤ lim
        · rw [if_pos c] at e
          obtain ⟨rfl, rfl⟩ := ret_some e
          obtain ⟨a, kvs, h1, h2, _, _, _⟩ := dct_at rl ho c.1
          refine ⟨_, h1, .inr (.inr (.inl ⟨rfl, .inl ⟨kvs, h2⟩⟩)), F, B, W, env, n, _, _, rl, e1, fun v F1 H1 g rl1 p1 => ?_⟩
          obtain ⟨a', kvs', h1', h2', h3', h4', f'⟩ := dct_at rl1 ho c.1
          rw [h1] at h1'
          cases h1'
          obtain ⟨b, more, rfl, hb, hn, hr⟩ := p1.dict_inv c.2.1
          obtain ⟨kd', k1, k2⟩ := kd_rp hr
          rw [hk] at k1
          cases k1
          obtain ⟨m1, m2⟩ := merge_rp k2 h4' h3'
          have hne : a ≠ b := fun z => by
            rw [z, hb] at f'
            cases f'
          refine ⟨a, b, kvs', more, rfl, rfl, h2', rl1.zn.ff _ _ hb, hne, by rw [kv_len h4', kv_len hr]; exact lim_le c.2.2, ?_⟩
          exact k σ F1 _ g.f (rl1.updDct (getK_some ho) h1 (.inl ⟨_, rfl, m2, m1⟩))
        · rw [if_neg c] at e
          cases e
    | _ =>
      simp only [ho, fail] at e
      cases e
end
section
variable {X : Cx} {e : Expr}
theorem rd_tOf {K : PySem.W.Frag} {m : DM} {σ : L2.St} {H : Hp} {Q : Bool → Hp → Prop} (h : rdT K (tOf m) σ H Q) : rdE K m σ H fun v H1 => ∃ c, v = .bl c ∧ Q c H1 := by
  obtain ⟨F, B, W, env, n, b, n', rl, e, k⟩ := h
  obtain ⟨d, n1, e1, e⟩ := bnd_some e
  obtain ⟨e3, rfl⟩ := lift_some e
  match d, e1, e3 with
  | .bool c, e1, e3 =>
    cases e3
    exact ⟨F, B, W, env, n, _, _, rl, e1, fun v F1 H1 g rl1 p => ⟨b, by cases p; rfl, k F1 H1 g rl1⟩⟩
theorem dt_din {a b : DM} (h : PT X e (tB (tDIn (rdE X.K a) (rdE X.K b)))) : DT X e (tOf (dInK a b)) := h.imp fun _ _ _ h => rd_inD (rd_tOf h)
theorem dt_dnotin {a b : DM} (h : PT X e (tB (tDNotIn (rdE X.K a) (rdE X.K b)))) : DT X e (tOf (dNotInK a b)) := h.imp fun _ _ _ h => rd_ninD (rd_tOf h)
theorem dss_fail {st : List Stmt} : DSs X st sFail := ⟨fun _ _ _ _ _ _ ⟨_, _, _, _, _, _, _, _, e, _⟩ => nomatch e⟩
/-- list(range(n)) -/
def listRg1 (a : DM) : AM := fun env => bnd (a env) fun x => match x with
  | .int j => if -big ≤ j ∧ j ≤ big ∧ j ≤ 16000000 then ret (rangeD 0 j) else fail
  | _ => fail
@[simp] theorem e_listRg1 (a : DM) (env : DL.Env) : listRg1 a env = bnd (a env) fun x => match x with
  | .int j => if -big ≤ j ∧ j ≤ big ∧ j ≤ 16000000 then ret (rangeD 0 j) else fail
  | _ => fail := (rfl)
theorem fe_listRg1 {a : DM} (h : PE X e (tLstRg (tRg1 (rdE X.K a)))) : FE X e (listRg1 a) := h.imp fun σ H Q ⟨F, B, W, env, n, ds, n', rl, e, k⟩ => by
  obtain ⟨x, n1, e1, e⟩ := bnd_some e
  refine ⟨F, B, W, env, n, x, n1, rl, e1, fun v1 F1 H1 g1 rl1 p1 => ?_⟩
  match x, e, p1 with
  | .int j, e, p1 =>
    dsimp only at e
    by_cases c : -big ≤ j ∧ j ≤ big ∧ j ≤ 16000000
    · rw [if_pos c] at e
      obtain ⟨rfl, rfl⟩ := ret_some e
      obtain ⟨c3, c4, c5⟩ := c
      unfold big at c3 c4
      refine ⟨j, p1.int_inv, ⟨by omega, by omega, by omega, by omega, by omega⟩, fun q hq => ?_⟩
      have gr : Gr F1 H1 F1 (upd H1 q (.lst (rgV 0 j))) := .mine rl1.zn.ff hq
      exact k q _ F1 _ (g1.trans (.of gr)) (rl1.gr gr) (g1.keepNone rl rl1 hq) upd_same (same_none rl1.zn.ff hq) (rgV_rp 0 j)
    · rw [if_neg c] at e
      cases e
end
end DL

/-! DL, part q: dicts whose keys are tuples. -/
namespace DL
open PySem PySem.Spec PyProof.Rows L2
def keysOf : List PyData → Option (List Key)
  | [] => some []
  | d :: ds => match keyOfD d, keysOf ds with
    | some k, some t => some (k :: t)
    | _, _ => none
theorem keysOf_map : ∀ k : List Key, keysOf (k.map keyD) = some k
  | [] => rfl
  | x :: k => by simp only [List.map_cons, keysOf, keyOf_keyD, keysOf_map k]
theorem keysOf_some : ∀ {ds : List PyData} {k : List Key}, keysOf ds = some k → ds = k.map keyD
  | [], k, h => by
    cases h
    rfl
  | d :: ds, k, h => by
    unfold keysOf at h
    split at h
    · rename_i x t hx ht
      cases h
      rw [List.map_cons, ← keyOf_some hx, keysOf_some ht]
    · cases h
def keyTD : PyData → Option (List Key)
  | .tuple ds => keysOf ds
  | _ => none
theorem keyTD_of (k : List Key) : keyTD (.tuple (k.map keyD)) = some k := keysOf_map k
def lookT (ds : Kvs) (k : List Key) : Option PyData := match ds with
  | [] => none
  | (x, d) :: r => if keyTD x = some k then some d else lookT r k
def putAllT (ds : Kvs) (k : List Key) (d : PyData) : Kvs := ds.map fun p => if keyTD p.1 = some k then (p.1, d) else p
def putTD (ds : Kvs) (k : List Key) (d : PyData) : Kvs := if (lookT ds k).isSome = true then putAllT ds k d else ds ++ [(.tuple (k.map keyD), d)]
section
variable {K : PySem.W.Frag} {F : Hp}
theorem lookT_rp (k : List Key) : ∀ {kvs : List (List Key × V)} {ds : Kvs}, RpTv K F kvs ds → (valV kvs k = none ∧ lookT ds k = none) ∨ ∃ v d, valV kvs k = some v ∧ lookT ds k = some d ∧ Rp K F v d
  | _, _, .nil => .inl ⟨rfl, rfl⟩
  | _, _, .cons (k := k') h r => by
    by_cases e : k' = k
    · subst e
      exact .inr ⟨_, _, valV_pos rfl, by simp [lookT, keyTD_of], h⟩
    · rw [valV_neg e]
      have : ¬ keyTD (.tuple (k'.map keyD)) = some k := fun z => by
        rw [keyTD_of] at z
        exact e (Option.some.inj z)
      simp only [lookT, if_neg this]
      exact lookT_rp k r
theorem putAllT_rp (k : List Key) {v : V} {d : PyData} (h : Rp K F v d) : ∀ {kvs : List (List Key × V)} {ds : Kvs}, RpTv K F kvs ds → RpTv K F (kvs.map fun kv => if kv.1 = k then (kv.1, v) else kv) (putAllT ds k d)
  | _, _, .nil => .nil
  | _, _, .cons (k := k') h' r => by
    have ih := putAllT_rp k h r
    by_cases e : k' = k
    · subst e
      simp only [List.map_cons, putAllT, if_true, keyTD_of]
      exact .cons h ih
    · have : ¬ keyTD (.tuple (k'.map keyD)) = some k := fun z => by
        rw [keyTD_of] at z
        exact e (Option.some.inj z)
      simp only [List.map_cons, putAllT, if_neg e, if_neg this]
      exact .cons h' ih
theorem snocT_rp {k : List Key} {v : V} {d : PyData} (h : Rp K F v d) : ∀ {kvs : List (List Key × V)} {ds : Kvs}, RpTv K F kvs ds → RpTv K F (kvs ++ [(k, v)]) (ds ++ [(.tuple (k.map keyD), d)])
  | _, _, .nil => .cons h .nil
  | _, _, .cons h' r => .cons h' (snocT_rp h r)
theorem putT_rp {k : List Key} {v : V} {d : PyData} (h : Rp K F v d) {kvs : List (List Key × V)} {ds : Kvs} (r : RpTv K F kvs ds) : RpTv K F (putK kvs k v) (putTD ds k d) := by
  unfold putK putTD
  rw [valV_any]
  rcases lookT_rp k r with ⟨e1, e2⟩ | ⟨v', d', e1, e2, _⟩
  · rw [e1, e2]
    exact snocT_rp h r
  · rw [e1, e2]
    exact putAllT_rp k h r
theorem putT_nodup (k : List Key) (v : V) {kvs : List (List Key × V)} (h : (kvs.map (·.1)).Nodup) : ((putK kvs k v).map (·.1)).Nodup := by
  unfold putK
  rw [valV_any]
  cases e : valV kvs k with
  | some x =>
    simp only [Option.isSome_some, if_true]
    rw [List.map_map]
    have : ((fun kv : List Key × V => kv.1) ∘ fun kv => if kv.1 = k then (kv.1, v) else kv) = fun kv => kv.1 := by
      funext kv
      show (if kv.1 = k then (kv.1, v) else kv).1 = kv.1
      split <;> rfl
    rw [this]
    exact h
  | none =>
    simp only [Option.isSome_none, Bool.false_eq_true, if_false]
    rw [List.map_append]
    refine List.nodup_append.mpr ⟨h, by simp, fun x hx y hy => ?_⟩
    have : y = k := by simpa using hy
    subst this
    intro z
    subst z
    obtain ⟨kv, hm, rfl⟩ := List.mem_map.mp hx
    have q : (kvs.any fun p => decide (p.1 = kv.1)) = true := List.any_eq_true.mpr ⟨kv, hm, by simp⟩
    rw [valV_any, e] at q
    cases q
theorem tv_len : ∀ {kvs : List (List Key × V)} {ds : Kvs}, RpTv K F kvs ds → kvs.length = ds.length
  | _, _, .nil => rfl
  | _, _, .cons _ r => by rw [List.length_cons, List.length_cons, tv_len r]
/-- keys of tuples, one at least -/
def isT (ds : Kvs) : Bool := !ds.isEmpty && ds.all fun p => (keyTD p.1).isSome
theorem keyD_notT (k : Key) : keyTD (keyD k) = none := by cases k <;> rfl
theorem kv_notT {kvs : List (Key × V)} {ds : Kvs} (r : RpKv K F kvs ds) (h : isT ds = true) : False := by
  cases r with
  | nil => cases h
  | cons h' r =>
    unfold isT at h
    simp [keyD_notT] at h
theorem Rp.dictT_inv {v : V} {ds : Kvs} (h : Rp K F v (.dict ds)) (hk : isT ds = true) : ∃ a kvs, v = .ref a ∧ F a = some (.dT kvs) ∧ (kvs.map (·.1)).Nodup ∧ RpTv K F kvs ds := by
  cases h with
  | dT h1 h2 h3 => exact ⟨_, _, rfl, h1, h2, h3⟩
  | dK h1 h2 h3 => exact (kv_notT h3 hk).elim
theorem rp_kVs {us : List V} {k : List Key} (h : RpAll K F us (k.map keyD)) : us = k.map kV := by
  induction k generalizing us with
  | nil =>
    cases h
    rfl
  | cons x k ih =>
    cases h with
    | cons h1 h2 => rw [h1.kV_inv, ih h2, List.map_cons]
end
section
variable {X : Cx} {st : Stmt} {e : Expr}
/-- d.get((a, ..), n) of a dict to read -/
def dGetT (md : DM) (ms : AM) (n : Int) : DM := fun env => bnd (md env) fun d => bnd (ms env) fun ds => lift (match d with
  | .dict kvs => match keysOf ds with
    | some k => if isT kvs = true ∧ ds.length ≤ lim then (match lookT kvs k with
      | some x => some x
      | none => some (.int n)) else none
    | none => none
  | _ => none)
theorem de_getT {md : DM} {ms : AM} {n : Int} (h : PE X e (tDGet2 (rdE X.K md) (tTup (rdA X.K ms)) (tC (.int n)))) : DE X e (dGetT md ms n) := h.imp fun σ H Q ⟨F, B, W, env, m, d, n', rl, e, k⟩ => by
  obtain ⟨x, n1, e1, e⟩ := bnd_some e
  obtain ⟨ds, n2, e2, e⟩ := bnd_some e
  obtain ⟨e3, rfl⟩ := lift_some e
  refine ⟨F, B, W, env, m, x, n1, rl, e1, fun v1 F1 H1 g1 rl1 p1 => ?_⟩
  cases x with
  | dict kvs =>
    cases hk : keysOf ds with
    | none =>
      simp only [hk] at e3
      cases e3
    | some ks =>
      simp only [hk] at e3
      by_cases c : isT kvs = true ∧ ds.length ≤ lim
      · rw [if_pos c] at e3
        obtain ⟨a, kvs', rfl, ha, hn, hr⟩ := p1.dictT_inv c.1
        refine ⟨a, rfl, .inr ⟨kvs', .inl (rl1.zn.ff _ _ ha)⟩, ?_⟩
        refine ⟨F1, B, W, env, n1, ds, _, rl1, e2, fun vs F2 H2 g2 rl2 p2 => ⟨by rw [p2.len]; exact lim_le c.2, fun p hp => ?_⟩⟩
        have hv : vs = ks.map kV := by
          rw [keysOf_some hk] at p2
          exact rp_kVs p2
        subst hv
        have gr : Gr F2 H2 (upd F2 p (.tup (ks.map kV))) (upd H2 p (.tup (ks.map kV))) := .new rl2.zn.ff hp
        have ha2 : (upd H2 p (.tup (ks.map kV))) a = some (.dT kvs') := gr.h _ _ (rl2.zn.ff _ _ (g2.f _ _ ha))
        refine ⟨valV kvs' ks, .t ha2 upd_same, ?_⟩
        have rl3 := rl2.gr gr
        have g3 := (g1.trans g2).trans (.of gr)
        rcases lookT_rp ks hr with ⟨q1, q2⟩ | ⟨v', d', q1, q2, q3⟩
        · rw [q2] at e3
          cases e3
          rw [q1]
          exact k _ _ _ g3 rl3 (.int n)
        · rw [q2] at e3
          cases e3
          rw [q1]
          exact k _ _ _ g3 rl3 ((q3.mono g2.f).mono gr.f)
      · rw [if_neg c] at e3
        cases e3
  | _ => cases e3
/-- x = {}: to be a dict with keys of tuples, one's own -/
def sNewT (i : Nat) : SM := fun env => ret (.nx (env.set i (some (.dct [(.none, .none)]))))
theorem ds_newT {i : Nat} (h : PS X st (tAsg tDNewT (gName i))) : DS X st (sNewT i) := h.imp fun D σ H ⟨F, B, W, env, n, r, n', rl, e, k⟩ => by
  obtain ⟨rfl, rfl⟩ := ret_some e
  intro q hq
  have gr : Gr F H F (upd H q (.dT [])) := .mine rl.zn.ff hq
  exact k _ F _ (.refl _) ((rl.gr gr).setOwn i ⟨q, rfl, same_none rl.zn.ff hq, ⟨same_none rl.zn.bb hq, rl.wo.ne hq⟩, .inr ⟨[], [], rfl, upd_same, by simp, .nil⟩⟩ (fresh_ne rl hq i))
/-- one's own dict with keys of tuples -/
def getT (env : DL.Env) (i : Nat) : Option Kvs := match env[i]? with
  | some (some (.dct ((.none, .none) :: ds))) => some ds
  | _ => none
theorem getT_some {env : DL.Env} {i : Nat} {ds : Kvs} (h : getT env i = some ds) : env[i]? = some (some (.dct ((.none, .none) :: ds))) := by
  unfold getT at h
  split at h
  · cases h; assumption
  · cases h
/-- k = (a, ..); x[k] = x.get(k, 0) + 1 -/
def sKeyInc (i j : Nat) (ms : AM) : SM := fun env => bnd (ms env) fun ds => match keysOf ds, getT env i with
  | some k, some kvs => if i ≠ j ∧ j < env.length ∧ ds.length ≤ lim ∧ kvs.length < lim then
      (match lookT kvs k with
        | none => ret (.nx ((env.set j (some (.val (.tuple ds)))).set i (some (.dct ((.none, .none) :: putTD kvs k (.int 1))))))
        | some (.int c) => ret (.nx ((env.set j (some (.val (.tuple ds)))).set i (some (.dct ((.none, .none) :: putTD kvs k (.int (c + 1)))))))
        | _ => fail)
    else fail
  | _, _ => fail
abbrev tKeyInc (K : PySem.W.Frag) (i j : Nat) (ms : AM) : TS := tSeq (tAsg (tTup (rdA K ms)) (gName j)) (sDPut (tVar i) (tVar j) (tOp (rI0 fun i j => .int (i + j)) (tDGet2 (tVar i) (tVar j) (tC (.int 0))) (tC (.int 1))))
theorem rd_keyInc {K : PySem.W.Frag} {i j : Nat} {ms : AM} {D : Ends} {σ : L2.St} {H : Hp} (h : rdS K (sKeyInc i j ms) D σ H) : tKeyInc K i j ms D σ H := by
  obtain ⟨F, B, W, env, n, r, n', rl, e, k⟩ := h
  obtain ⟨ds, n1, e1, e⟩ := bnd_some e
  cases hk : keysOf ds with
  | none =>
    simp only [hk, fail] at e
    cases e
  | some ks =>
    cases ho : getT env i with
    | none =>
      simp only [hk, ho, fail] at e
      cases e
    | some kvs =>
      simp only [hk, ho] at e
      · by_cases c : i ≠ j ∧ j < env.length ∧ ds.length ≤ lim ∧ kvs.length < lim
        · rw [if_pos c] at e
          obtain ⟨c1, c2, c3, c4⟩ := c
          -- what is counted
          have hcnt : ∃ m : Int, (∀ {F : Hp} {xs : List (List Key × V)}, RpTv K F xs kvs → (valV xs ks).getD (.int 0) = .int m) ∧ ret (Fl.nx ((env.set j (some (.val (.tuple ds)))).set i (some (.dct ((.none, .none) :: putTD kvs ks (.int (m + 1))))))) n1 = some (r, n') := by
            cases hl : lookT kvs ks with
            | none =>
              simp only [hl] at e
              refine ⟨0, fun r => ?_, e⟩
              rcases lookT_rp ks r with ⟨q1, q2⟩ | ⟨v', d', q1, q2, q3⟩
              · rw [q1]
                rfl
              · rw [hl] at q2
                cases q2
            | some d0 =>
              cases d0 with
              | int c0 =>
                simp only [hl] at e
                refine ⟨c0, fun r => ?_, e⟩
                rcases lookT_rp ks r with ⟨q1, q2⟩ | ⟨v', d', q1, q2, q3⟩
                · rw [hl] at q2
                  cases q2
                · rw [hl] at q2
                  cases q2
                  rw [q1]
                  exact q3.int_inv
              | _ =>
                simp only [hl, fail] at e
                cases e
          obtain ⟨m, hm, e⟩ := hcnt
          obtain ⟨rfl, rfl⟩ := ret_some e
          refine ⟨F, B, W, env, n, ds, _, rl, e1, fun vs F1 H1 g1 rl1 p => ⟨by rw [p.len]; exact lim_le c3, fun q hq => ?_⟩⟩
          have hv : vs = ks.map kV := by
            have p' := p
            rw [keysOf_some hk] at p'
            exact rp_kVs p'
          have gr : Gr F1 H1 (upd F1 q (.tup vs)) (upd H1 q (.tup vs)) := .new rl1.zn.ff hq
          have rl2 := (rl1.gr gr).set j (.tup (.of upd_same) (p.mono gr.f) : Rp K (upd F1 q (.tup vs)) (.ref q) (.tuple ds))
          have he : (env.set j (some (.val (.tuple ds))))[i]? = some (some (.dct ((.none, .none) :: kvs))) := by
            rw [List.getElem?_set_ne (Ne.symm c1)]
            exact getT_some ho
          obtain ⟨v, h1, a, rfl, fa, _, hH⟩ := rl2.sl i _ he
          have hj : (σ.set j (some (V.ref q)))[j]? = some (some (.ref q)) := List.getElem?_set_self (by rw [← rl.le]; exact c2)
          rcases hH with ⟨xs, _, _, h4⟩ | ⟨xs, ks2, ek, h2, h3, h4⟩
          · have := kv_keys h4 _ List.mem_cons_self
            cases this
          · cases ek
            have hq2 : (upd H1 q (.tup vs)) q = some (.tup (ks.map kV)) := by rw [upd_same, hv]
            show sDPut (tVar i) (tVar j) (tOp (rI0 fun i j => V.int (i + j)) (tDGet2 (tVar i) (tVar j) (tC (V.int 0))) (tC (V.int 1))) D (σ.set j (some (V.ref q))) (upd H1 q (.tup vs))
            refine ⟨_, h1, a, rfl, .inr ⟨xs, .inl h2⟩, _, hj, valV xs ks, .t h2 hq2, ?_⟩
            rw [hm h4]
            refine ⟨m, 1, rfl, rfl, _, h1, _, hj, a, _, rfl, .t h2 hq2 (by rw [tv_len h4]; exact lim_lt c4), ?_⟩
            exact k _ (upd F1 q (.tup vs)) _ (g1.f.trans gr.f) (rl2.updDct he h1 (.inr ⟨_, _, rfl, rfl, putT_nodup _ _ h3, putT_rp (.int _) h4⟩))
        · rw [if_neg c] at e
          cases e
theorem dss_keyInc {i j : Nat} {ms : AM} {st st2 : Stmt} (h1 : PS X st (tAsg (tTup (rdA X.K ms)) (gName j))) (h2 : PS X st2 (sDPut (tVar i) (tVar j) (tOp (rI0 fun i j => .int (i + j)) (tDGet2 (tVar i) (tVar j) (tC (.int 0))) (tC (.int 1))))) : DSs X [st, st2] (sKeyInc i j ms) :=
  (pss_cons h1 (pss_one h2)).imp fun _ _ _ h => rd_keyInc h
/-- t < u of tuples of ints -/
def ltTD (x y : PyData) : Option PyData := match x with
  | .tuple a => match y with
    | .tuple b => match intsOf a, intsOf b with
      | some ns, some ms => some (.bool (HT.lexLt ns ms))
      | _, _ => none
    | _ => none
  | _ => none
theorem r_ltT {K : PySem.W.Frag} : R2D K (rLtT K) ltTD := fun F H x y d1 d2 d Q s p1 p2 e k => by
  match d1, d2, e, p1, p2 with
  | .tuple a, .tuple b, e, p1, p2 =>
    unfold ltTD at e
    dsimp only at e
    split at e
    · rename_i ns ms h1 h2
      cases e
      obtain ⟨u, us, rfl, hu, ru⟩ := p1.tup_inv
      obtain ⟨w, ws, rfl, hw, rw'⟩ := p2.tup_inv
      rw [intsOf_some h1] at ru
      rw [intsOf_some h2] at rw'
      rw [ru.ints_inv] at hu
      rw [rw'.ints_inv] at hw
      exact ⟨u, w, ns, ms, rfl, rfl, sqt_mono s hu, sqt_mono s hw, k _ F H (.refl s) (.bl _)⟩
    · cases e
end
end DL

/-! DL, part t: the table of a set, masks up to 511. -/
namespace DL
open PySem PySem.Spec PyProof.Rows L2

/-! ### the round of i -> 5 i + 1, mask 511 -/
def orb (m : Nat) : Nat → Nat → List Nat
  | 0, _ => []
  | k + 1, x => x :: orb m k ((x * 5 + 1) % (m + 1))
theorem lcgI_shift (m : Nat) (i : Nat) : ∀ k, lcgI m ((i * 5 + 1) % (m + 1)) k = lcgI m i (k + 1)
  | 0 => rfl
  | k + 1 => by
    have ih := lcgI_shift m i k
    show (lcgI m ((i * 5 + 1) % (m + 1)) k * 5 + 1) % (m + 1) = (lcgI m i (k + 1) * 5 + 1) % (m + 1)
    rw [ih]
theorem lcgI_plus (m i a : Nat) : ∀ k, lcgI m (lcgI m i a) k = lcgI m i (a + k)
  | 0 => rfl
  | k + 1 => by
    have ih := lcgI_plus m i a k
    show (lcgI m (lcgI m i a) k * 5 + 1) % (m + 1) = (lcgI m i (a + k) * 5 + 1) % (m + 1)
    rw [ih]
theorem orb_mem {m j : Nat} : ∀ (n x : Nat), j ∈ orb m n x → ∃ k, k < n ∧ lcgI m x k = j
  | 0, _, h => nomatch h
  | n + 1, x, h => by
    rcases List.mem_cons.mp h with e | h
    · exact ⟨0, Nat.succ_pos _, e.symm⟩
    · obtain ⟨k, hk, e⟩ := orb_mem n _ h
      exact ⟨k + 1, Nat.succ_lt_succ hk, by rw [← lcgI_shift]; exact e⟩
theorem orb_all : ((List.range 512).all fun j => (orb 511 512 0).contains j) = true := by decide +kernel
theorem orb_round : lcgI 511 0 512 = 0 := by decide +kernel
theorem orb_mod : ∀ k, lcgI 511 0 (512 + k) = lcgI 511 0 k := fun k => by
  rw [← lcgI_plus, orb_round]
/-- a mask from which each slot is met -/
structure MaskG (m : Nat) : Prop where
  odd : m % 2 = 1
  le : m ≤ 511
  all : ∀ i j, i ≤ m → j ≤ m → ∃ k, k ≤ m ∧ lcgI m i k = j
theorem MaskG.of {m : Nat} (h : MaskOk m) : MaskG m := ⟨mask_odd h, by rcases h with e | e | e <;> omega, fun _ _ hi hj => lcgI_all h hi hj⟩
theorem maskG511 : MaskG 511 := by
  have at0 : ∀ j, j ≤ 511 → ∃ k, k < 512 ∧ lcgI 511 0 k = j := fun j hj => by
    have h := List.all_eq_true.mp orb_all j (List.mem_range.mpr (Nat.lt_succ_of_le hj))
    exact orb_mem 512 0 (by simpa using h)
  refine ⟨rfl, Nat.le_refl _, fun i j hi hj => ?_⟩
  obtain ⟨a, ha, ea⟩ := at0 i hi
  obtain ⟨b, hb, eb⟩ := at0 j hj
  rw [← ea]
  by_cases c : a ≤ b
  · exact ⟨b - a, by omega, by rw [lcgI_plus, show a + (b - a) = b by omega]; exact eb⟩
  · exact ⟨b + 512 - a, by omega, by rw [lcgI_plus, show a + (b + 512 - a) = 512 + b by omega, orb_mod]; exact eb⟩

/-! ### the way -/
theorem meets_run {m : Nat} (M : MaskG m) (h : Int) {j : Nat} (hj : j ≤ m) : ∃ n, n ≤ m + 12 ∧ runI m (SetTable.bits h) n = j := by
  obtain ⟨k, hk, e⟩ := M.all _ j (runI_le m (SetTable.bits h) 12) hj
  exact ⟨12 + k, by omega, (runI_tail (bits_lt h) k).trans e⟩
theorem meets_nth {m : Nat} (M : MaskG m) (h : Int) {j : Nat} (hj : j ≤ m) : ∃ k, k < 10 * SetTable.turns m ∧ way m h k = j := by
  obtain ⟨n, hn, e⟩ := meets_run M h hj
  obtain ⟨k, hk, e2⟩ := run_nth m (SetTable.bits h) n
  refine ⟨k, by unfold SetTable.turns; omega, ?_⟩
  show (nth m (runAt m (SetTable.bits h % (m + 1)) (SetTable.bits h)) k).j = j
  rw [e2]; exact e
theorem way_in {m : Nat} (h : Int) (k : Nat) : way m h k ≤ m := by
  have b : SetTable.bits h % (m + 1) ≤ m := Nat.le_of_lt_succ (Nat.mod_lt (SetTable.bits h) (Nat.succ_pos m))
  have r := runEnd_bd b
  have q := nth_in (m := m) k (runAt m (SetTable.bits h % (m + 1)) (SetTable.bits h)) (show SetTable.bits h % (m + 1) + (SetTable.runEnd m (SetTable.bits h % (m + 1)) - SetTable.bits h % (m + 1)) ≤ m by omega)
  exact Nat.le_trans (Nat.le_add_right _ _) q

/-! ### the table -/
/-- each slot is found again from its hash -/
structure TabG (t : SetTable) (hs : List Int) : Prop where
  up : Ris t.place.toList
  dm : t.dummies = #[]
  sz : t.place.size = hs.length
  mg : MaskG t.mask
  bd : ∀ x ∈ t.place.toList, x ≤ t.mask
  back : ∀ (i : Nat) (h : Int) (j : Nat), hs[i]? = some h → t.place.toList[i]? = some j → ∃ k, way t.mask h k = j ∧ ∀ c, c < k → way t.mask h c ∈ t.place.toList
theorem TabG.free {t : SetTable} {hs : List Int} (T : TabG t hs) (hl : hs.length ≤ t.mask) (h : Int) : ∃ K, K < 10 * SetTable.turns t.mask ∧ way t.mask h K ∉ t.place.toList ∧ ∀ c, c < K → way t.mask h c ∈ t.place.toList := by
  obtain ⟨j, hj, hn⟩ := st_missing t.place.toList (t.mask + 1) (by
    have q := T.sz
    rw [← Array.length_toList] at q
    omega)
  obtain ⟨k, hk, e⟩ := meets_nth T.mg h (Nat.le_of_lt_succ hj)
  obtain ⟨K, h1, h2, h3⟩ := st_least (p := fun k => way t.mask h k ∉ t.place.toList) k (fun z => hn (e ▸ z))
  exact ⟨K, Nat.lt_of_le_of_lt h1 hk, h2, fun c hc => Classical.not_not.mp (h3 c hc)⟩
theorem TabG.ahead {t : SetTable} {hs : List Int} (T : TabG t hs) {h : Int} {K i j : Nat} (hK : way t.mask h K ∉ t.place.toList) (hi : hs[i]? = some h) (hj : t.place.toList[i]? = some j) : ∃ k, k < K ∧ way t.mask h k = j := by
  obtain ⟨k, e, hb⟩ := T.back i h j hi hj
  refine ⟨k, ?_, e⟩
  rcases Nat.lt_trichotomy k K with c | c | c
  · exact c
  · subst c
    rw [e] at hK
    exact absurd (List.mem_of_getElem? hj) hK
  · exact absurd (hb K c) hK
/-- one put in at the first free slot of its way -/
theorem TabG.put {t : SetTable} {hs : List Int} (T : TabG t hs) {h : Int} {K : Nat} (hK : way t.mask h K ∉ t.place.toList) (hb : ∀ c, c < K → way t.mask h c ∈ t.place.toList) :
    SetTable.below t.place (way t.mask h K) ≤ hs.length ∧ TabG (t.put (way t.mask h K)).1 (hs.take (SetTable.below t.place (way t.mask h K)) ++ h :: hs.drop (SetTable.below t.place (way t.mask h K))) ∧ (t.put (way t.mask h K)).1.fill = hs.length + 1 := by
  have hjm : way t.mask h K ≤ t.mask := way_in h K
  generalize hj : way t.mask h K = j at hK hjm ⊢
  have c1 := (below_cut T.up j).1
  have hsz : t.place.toList.length = hs.length := by rw [Array.length_toList]; exact T.sz
  have hpl : SetTable.below t.place j ≤ t.place.toList.length := by rw [Array.length_toList]; exact c1
  have hph : SetTable.below t.place j ≤ hs.length := by rw [← hsz]; exact hpl
  have hnp : t.place[SetTable.below t.place j]? ≠ some j := fun e => hK (List.mem_of_getElem? (by rw [Array.getElem?_toList]; exact e))
  have hpp := put_place t j
  have hsize : (t.put j).1.place.size = hs.length + 1 := by rw [← Array.length_toList, hpp, len_ins _ hpl, hsz]
  have grow : ∀ {x : Nat}, x ∈ t.place.toList → x ∈ (t.put j).1.place.toList := fun hx => by rw [hpp]; exact mem_ins.2 (.inr hx)
  refine ⟨hph, ⟨ris_insert T.up hnp, put_dm T.dm j, by rw [len_ins _ hph]; exact hsize, T.mg, fun x hx => ?_, fun i h' j' h1 h2 => ?_⟩, ?_⟩
  · rw [hpp] at hx
    rcases mem_ins.1 hx with z | z
    · subst z; exact hjm
    · exact T.bd x z
  · rw [tins_get hs hph] at h1
    rw [hpp, tins_get _ hpl] at h2
    show ∃ k, way t.mask h' k = j' ∧ ∀ c, c < k → way t.mask h' c ∈ (t.put j).1.place.toList
    by_cases c : i < SetTable.below t.place j
    · rw [if_pos c] at h1 h2
      obtain ⟨k, e, z⟩ := T.back i h' j' h1 h2
      exact ⟨k, e, fun c hc => grow (z c hc)⟩
    · rw [if_neg c] at h1 h2
      by_cases d : i = SetTable.below t.place j
      · rw [if_pos d] at h1 h2
        cases h1
        cases h2
        exact ⟨K, hj, fun c hc => grow (hb c hc)⟩
      · rw [if_neg d] at h1 h2
        obtain ⟨k, e, z⟩ := T.back (i - 1) h' j' h1 h2
        exact ⟨k, e, fun c hc => grow (z c hc)⟩
  · show (t.put j).1.place.size + (t.put j).1.dummies.size = hs.length + 1
    rw [hsize, put_dm T.dm j]; rfl

/-! ### laid anew -/
theorem free_at {m : Nat} (M : MaskG m) (owner : Array (Option Nat)) (h : Int) {j : Nat} (hj : j ≤ m) (hf : oAt owner j = none) :
    ∃ K, SetTable.layClean.free m owner (SetTable.turns m) (SetTable.bits h % (m + 1)) (SetTable.bits h) = some (way m h K) ∧ oAt owner (way m h K) = none ∧ ∀ k, k < K → oAt owner (way m h k) ≠ none := by
  obtain ⟨n, hn, e⟩ := meets_run M h hj
  generalize ho : off m (SetTable.bits h % (m + 1)) (SetTable.bits h) n = o
  have hw : way m h o = j := by
    show (nth m (runAt m (SetTable.bits h % (m + 1)) (SetTable.bits h)) o).j = j
    rw [← ho, nth_off, itL_run]; exact e
  obtain ⟨K, k1, k2, k3⟩ := st_least (p := fun k => oAt owner (way m h k) = none) o (by
    have q : oAt owner (way m h o) = none := by rw [hw]; exact hf
    exact q)
  refine ⟨K, free_spec m owner (SetTable.turns m) n _ _ K (by unfold SetTable.turns; omega) (by rw [ho]; exact k1) (fun k hk => ?_) ?_, k2, k3⟩
  · have q : oAt owner (nth m (runAt m (SetTable.bits h % (m + 1)) (SetTable.bits h)) k).j ≠ none := k3 k hk
    cases z : oAt owner (nth m (runAt m (SetTable.bits h % (m + 1)) (SetTable.bits h)) k).j with
    | none => exact absurd z q
    | some _ => rfl
  · have q : oAt owner (nth m (runAt m (SetTable.bits h % (m + 1)) (SetTable.bits h)) K).j = none := k2
    rw [q]; rfl
theorem own_step {m : Nat} (M : MaskG m) {done : List Int} {owner : Array (Option Nat)} (W : Own m done owner) (hl : done.length ≤ m) (h : Int) :
    ∃ j, SetTable.layClean.free m owner (SetTable.turns m) (SetTable.bits h % (m + 1)) (SetTable.bits h) = some j ∧ Own m (done ++ [h]) (owner.setIfInBounds j (some done.length)) := by
  obtain ⟨ps, hps, hin⟩ := W.ps
  obtain ⟨j0, h0, hn0⟩ := st_missing ps (m + 1) (by omega)
  have hj0 : oAt owner j0 = none := Classical.byContradiction fun z => hn0 (hin j0 (Nat.le_of_lt_succ h0) z)
  obtain ⟨K, e1, e2, e3⟩ := free_at M owner h (Nat.le_of_lt_succ h0) hj0
  have hjm : way m h K ≤ m := way_in h K
  have hjs : way m h K < owner.size := by rw [W.sz]; exact Nat.lt_succ_of_le hjm
  have hself := oAt_set_self (some done.length) hjs
  have mono : ∀ {i : Nat}, oAt owner i ≠ none → oAt (owner.setIfInBounds (way m h K) (some done.length)) i ≠ none := fun {i} hi => by
    by_cases c : i = way m h K
    · rw [c, hself]; exact nofun
    · rw [oAt_set_ne _ c]; exact hi
  refine ⟨way m h K, e1, by rw [Array.size_setIfInBounds]; exact W.sz, fun j k hj e => ?_, fun k hk => ?_, way m h K :: ps, by simp [hps], fun j hj e => ?_⟩
  · by_cases c : j = way m h K
    · rw [c, hself] at e
      cases e
      exact ⟨h, K, by simp, c.symm, fun k' hk' => mono (e3 k' hk')⟩
    · rw [oAt_set_ne _ c] at e
      obtain ⟨h', K', a1, a2, a3⟩ := W.at_ j k hj e
      exact ⟨h', K', by rw [List.getElem?_append_left (List.getElem?_eq_some_iff.mp a1).1]; exact a1, a2, fun k' hk' => mono (a3 k' hk')⟩
  · by_cases c : k < done.length
    · obtain ⟨j, hj, e⟩ := W.all k c
      refine ⟨j, hj, ?_⟩
      rw [oAt_set_ne _ fun z => by rw [z, e2] at e; cases e]
      exact e
    · have ek : k = done.length := by simp at hk; omega
      subst ek
      exact ⟨way m h K, hjm, hself⟩
  · by_cases c : j = way m h K
    · rw [c]; exact List.mem_cons_self
    · rw [oAt_set_ne _ c] at e
      exact List.mem_cons_of_mem _ (hin j hj e)
theorem lay_fold {m : Nat} (M : MaskG m) : ∀ (rest done : List Int) (owner : Array (Option Nat)), Own m done owner → done.length + rest.length ≤ m →
    ∃ owner', rest.foldl (stepF m) (some (owner, done.length)) = some (owner', (done ++ rest).length) ∧ Own m (done ++ rest) owner'
  | [], done, owner, W, _ => ⟨owner, by simp, by simpa using W⟩
  | h :: rest, done, owner, W, hl => by
    rw [List.length_cons] at hl
    obtain ⟨j, e, W'⟩ := own_step M W (by omega) h
    obtain ⟨owner', f, W2⟩ := lay_fold M rest (done ++ [h]) _ W' (by simp; omega)
    have ea : done ++ [h] ++ rest = done ++ h :: rest := by simp
    rw [ea] at f W2
    refine ⟨owner', ?_, W2⟩
    rw [List.foldl_cons, stepF_some e]
    simpa using f
theorem lay_ok {m : Nat} (M : MaskG m) {hs : Array Int} (hn : hs.size ≤ m) : ∃ owner, SetTable.layClean m hs = some owner ∧ Own m hs.toList owner := by
  obtain ⟨owner, f, W⟩ := lay_fold M hs.toList [] _ (Own.init m) (by simpa using hn)
  refine ⟨owner, ?_, by simpa using W⟩
  rw [layClean_eq]
  rw [List.length_nil] at f
  rw [f]; rfl
theorem relay_ok (t : SetTable) {hs : Array Int} {wanted M : Nat} (hw : SetTable.sizeAbove wanted - 1 = M) (hM : MaskG M) (hn : hs.size ≤ M) :
    ∃ t' order, t.relaid hs wanted = some (t', order) ∧ order.toList.Perm (List.range hs.size) ∧ TabG t' (order.toList.map fun i => hs.getD i 0) ∧ t'.mask = M ∧ t'.led = t.led ∧ t'.plain = t.plain := by
  obtain ⟨owner, e, W⟩ := lay_ok hM hn
  have hr : t.relaid hs wanted = some (tabOf t M owner, ((liveOf M owner).map (·.2)).toArray) := by rw [relaid_eq, hw, e]; rfl
  have rr := ris_live (fun j => owner.getD j none) (List.range (M + 1)) (by unfold Ris; exact List.pairwise_lt_range)
  have r1 : Ris ((liveOf M owner).map (·.1)) := rr.1
  have r2 : ∀ x ∈ (liveOf M owner).map (·.1), x ∈ List.range (M + 1) := rr.2
  have nd : ((liveOf M owner).map (·.1)).Nodup := List.Pairwise.imp (fun h => Nat.ne_of_lt h) r1
  have hlen : (liveOf M owner).length = hs.size := by
    obtain ⟨ps, p1, p2⟩ := W.ps
    have a := nat_nodup_len _ ps nd fun x hx => by
      obtain ⟨⟨y, k⟩, hq, rfl⟩ := List.mem_map.mp hx
      obtain ⟨b1, b2⟩ := (mem_live W.sz).1 hq
      exact p2 y b1 (by rw [b2]; exact nofun)
    have b := nat_nodup_len (List.range hs.size) ((liveOf M owner).map (·.2)) List.nodup_range fun k hk => by
      obtain ⟨j, b1, b2⟩ := W.all k (by rw [Array.length_toList]; exact List.mem_range.mp hk)
      exact List.mem_map.mpr ⟨(j, k), (mem_live W.sz).2 ⟨b1, b2⟩, rfl⟩
    simp only [List.length_map, List.length_range, Array.length_toList] at a b p1
    omega
  refine ⟨tabOf t M owner, ((liveOf M owner).map (·.2)).toArray, hr, ?_, ⟨r1, rfl, ?_, hM, fun x hx => ?_, fun i h j h1 h2 => ?_⟩, rfl, rfl, rfl⟩
  · refine perm_range hs.size _ (by simpa using hlen) fun k hk => ?_
    obtain ⟨j, b1, b2⟩ := W.all k (by rw [Array.length_toList]; exact hk)
    exact List.mem_map.mpr ⟨(j, k), (mem_live W.sz).2 ⟨b1, b2⟩, rfl⟩
  · show ((liveOf M owner).map (·.1)).toArray.size = _
    simp
  · exact Nat.le_of_lt_succ (List.mem_range.mp (r2 x hx))
  · have h1' : (((liveOf M owner).map (·.2)).map fun i => hs.getD i 0)[i]? = some h := h1
    have h2' : ((liveOf M owner).map (·.1))[i]? = some j := h2
    rw [List.getElem?_map, List.getElem?_map] at h1'
    rw [List.getElem?_map] at h2'
    cases hq : (liveOf M owner)[i]? with
    | none => rw [hq] at h2'; cases h2'
    | some q =>
      obtain ⟨y, k⟩ := q
      rw [hq] at h1' h2'
      cases h2'
      have eh : hs.getD k 0 = h := Option.some.inj h1'
      obtain ⟨b1, b2⟩ := (mem_live W.sz).1 (List.mem_of_getElem? hq)
      obtain ⟨h0, K, a1, a2, a3⟩ := W.at_ y k b1 b2
      have e0 : hs.getD k 0 = h0 := by rw [Array.getD_eq_getD_getElem?, ← Array.getElem?_toList, a1]; rfl
      obtain rfl : h0 = h := e0.symm.trans eh
      refine ⟨K, a2, fun c hc => ?_⟩
      show way M h0 c ∈ (liveOf M owner).map (·.1)
      cases z : oAt owner (way M h0 c) with
      | none => exact absurd z (a3 c hc)
      | some k2 => exact List.mem_map.mpr ⟨(way M h0 c, k2), (mem_live W.sz).2 ⟨way_in h0 c, z⟩, rfl⟩
theorem size_308 : SetTable.sizeAbove (SetTable.grown 77) = 512 := by decide +kernel
end DL

/-! DL, part u: sets made of lists of tuples, of any depth (keys as in KE.KeyNested). -/
namespace DL
open PySem PySem.Spec PyProof.Rows L2

/-- the tuple at a is the key k -/
def IsK (h : Heap) (k : NestedKey) (a : Addr) : Prop := NestedIs h k (.ref a) ∧ k.depth ≤ 8
section
variable {P : Program} {w : World}
/-! ### small questions -/
/-- of no class statement -/
def NoCls (P : Program) (w : World) (n : Nat) (s : Shared) (v : Value) : Prop := ∀ (A : Around) (E : Value → Shared → Prop) (Q : Bool → Shared → Prop), Q false s → wpAny (model P w) A (ofAClassStatement n v) Q E s
/-- hashed by value or not: an answer -/
def HasAns (P : Program) (w : World) (n : Nat) (s : Shared) (v : Value) : Prop := ∀ (A : Around) (E : Value → Shared → Prop) (Q : Bool → Shared → Prop), (∀ b, Q b s) → wpAny (model P w) A (hashByValue n v) Q E s
theorem NoCls.tup {n : Nat} {s : Shared} {a : Addr} {o : Obj} {vs : Array Value} {m : Nat} (hg : s.heap.get? a = some o) (hc : o.cls = .type "tuple") (hd : o.data = .seq vs m) (hall : ∀ v ∈ vs.toList, NoCls P w n s v) : NoCls P w (n + 1) s (.ref a) := fun A E Q h => by
  unfold ofAClassStatement
  refine wpAny_bind (wpAny_typeOf (T := "tuple") ⟨o, hg, hc⟩ ?_)
  dsimp only
  simp only [show (("tuple" : String) == "tuple") = true by decide, if_true, Bool.not_true, Bool.false_eq_true, if_false]
  try refine wpAny_bind (wpAny_pure ?_)
  try simp only [Bool.not_true, Bool.false_eq_true, if_false]
  show wpAny _ _ (seqItems? (.ref a) >>= fun _ => _) _ _ s
  refine wpAny_bind (wpAny_seqItems hg hd ?_)
  dsimp only
  refine wpAny_bind ?_
  show wpAny _ _ (forIn vs _ fun _ _ => _) _ _ s
  rw [← Array.forIn_toList]
  refine wpAny_forIn_list _ (fun rest r s' => (r.1 = none ∧ s' = s) ∧ ∀ v ∈ rest, NoCls P w n s v) _ (fun v rest r s' hh => ?_) (fun r s' hh => ?_) _ _ ⟨⟨rfl, rfl⟩, hall⟩
  · obtain ⟨⟨_, rfl⟩, hr⟩ := hh
    refine wpAny_bind (hr v List.mem_cons_self A E _ ?_)
    simp only [Bool.false_eq_true, if_false]
    exact wpAny_pure ⟨⟨rfl, rfl⟩, fun u hu => hr u (List.mem_cons_of_mem _ hu)⟩
  · obtain ⟨r1, r2⟩ := r
    obtain ⟨⟨e, rfl⟩, _⟩ := hh
    simp only at e
    subst e
    exact wpAny_pure h
theorem HasAns.tup {n : Nat} {s : Shared} {a : Addr} {o : Obj} {vs : Array Value} {m : Nat} (hg : s.heap.get? a = some o) (hc : o.cls = .type "tuple") (hd : o.data = .seq vs m) (hall : ∀ v ∈ vs.toList, HasAns P w n s v) : HasAns P w (n + 1) s (.ref a) := fun A E Q h => by
  have hT : s.TypeIs (.ref a) "tuple" := ⟨o, hg, hc⟩
  unfold hashByValue
  refine wpAny_bind (wpAny_specialOf hT F.slot_tuple_hash.lookup ?_)
  show wpAny _ _ (seqItems? (.ref a) >>= fun _ => _) _ _ s
  refine wpAny_bind (wpAny_seqItems hg hd ?_)
  refine wpAny_bind ?_
  show wpAny _ _ (forIn vs _ fun _ _ => _) _ _ s
  rw [← Array.forIn_toList]
  refine wpAny_forIn_list _ (fun rest r s' => (r.1 = none ∧ s' = s) ∧ ∀ v ∈ rest, HasAns P w n s v) _ (fun v rest r s' hh => ?_) (fun r s' hh => ?_) _ _ ⟨⟨rfl, rfl⟩, hall⟩
  · obtain ⟨⟨_, rfl⟩, hr⟩ := hh
    refine wpAny_bind (hr v List.mem_cons_self A E _ fun b => ?_)
    cases b with
    | true =>
      simp only [Bool.not_true, Bool.false_eq_true, if_false]
      exact wpAny_pure ⟨⟨rfl, rfl⟩, fun u hu => hr u (List.mem_cons_of_mem _ hu)⟩
    | false =>
      simp only [Bool.not_false, if_true]
      first
        | exact wpAny_pure (wpAny_pure (h false))
        | exact wpAny_bind (wpAny_pure (wpAny_pure (h false)))
        | exact wpAny_bind (wpAny_pure (wpAny_pure (wpAny_pure (h false))))
        | exact wpAny_pure (h false)
  · obtain ⟨r1, r2⟩ := r
    obtain ⟨⟨e, rfl⟩, _⟩ := hh
    simp only at e
    subst e
    exact wpAny_pure (h true)
mutual
theorem noCls_key : ∀ (k : NestedKey) (v : Value) (n : Nat) (s : Shared), NestedIs s.heap k v → k.depth ≤ n → NoCls P w n s v
  | .none, _, n, s, x, _ => by cases x; intro A E Q h; cases n <;> exact wpAny_pure h
  | .num i, _, n, s, x, _ => by cases x <;> (intro A E Q h; cases n <;> exact wpAny_pure h)
  | .text y, _, n, s, x, _ => by cases x; intro A E Q h; cases n <;> exact wpAny_pure h
  | .tup ks, _, n, s, x, hn => by
    cases x with
    | tup hg hc hd hk =>
      simp only [NestedKey.depth] at hn
      cases n with
      | zero => omega
      | succ n => exact .tup hg hc hd (noCls_keys ks _ n s hk (by omega))
theorem noCls_keys : ∀ (ks : List NestedKey) (vs : List Value) (n : Nat) (s : Shared), NestedAll s.heap ks vs → NestedKey.depthAll ks ≤ n → ∀ v ∈ vs, NoCls P w n s v
  | [], _, n, s, x, _, v, hv => by cases x; cases hv
  | k :: ks, _, n, s, x, hn, v, hv => by
    cases x with
    | cons x1 x2 =>
      simp only [NestedKey.depthAll] at hn
      rcases List.mem_cons.mp hv with e | hv
      · subst e; exact noCls_key k _ n s x1 (by omega)
      · exact noCls_keys ks _ n s x2 (by omega) v hv
end
mutual
theorem hasAns_key : ∀ (k : NestedKey) (v : Value) (n : Nat) (s : Shared), NestedIs s.heap k v → HasAns P w n s v
  | .none, _, n, s, x => by cases x; intro A E Q h; cases n <;> exact wpAny_pure (h _)
  | .num i, _, n, s, x => by cases x <;> (intro A E Q h; cases n <;> exact wpAny_pure (h _))
  | .text y, _, n, s, x => by cases x; intro A E Q h; cases n <;> exact wpAny_pure (h _)
  | .tup ks, _, n, s, x => by
    cases x with
    | tup hg hc hd hk =>
      cases n with
      | zero => intro A E Q h; exact wpAny_pure (h _)
      | succ n => exact .tup hg hc hd (hasAns_keys ks _ n s hk)
theorem hasAns_keys : ∀ (ks : List NestedKey) (vs : List Value) (n : Nat) (s : Shared), NestedAll s.heap ks vs → ∀ v ∈ vs, HasAns P w n s v
  | [], _, n, s, x, v, hv => by cases x; cases hv
  | k :: ks, _, n, s, x, v, hv => by
    cases x with
    | cons x1 x2 =>
      rcases List.mem_cons.mp hv with e | hv
      · subst e; exact hasAns_key k _ n s x1
      · exact hasAns_keys ks _ n s x2 v hv
end
variable {A : Around} {E : Value → Shared → Prop} {s : Shared}
/-- a search among keys shows nothing -/
theorem seen_key {k : NestedKey} {b : Addr} {Q : Bool → Shared → Prop} (hk : IsK s.heap k b) {ys : List Value} (hy : ∀ y ∈ ys, ∃ k' c, y = Value.ref c ∧ IsK s.heap k' c) (h : Q false s) :
    wpAny (model P w) A (searchCouldBeSeen (.ref b) ys) Q E s := by
  unfold searchCouldBeSeen
  refine wpAny_bind ?_
  refine wpAny_forIn_list _ (fun rest r s' => (r.1 = none ∧ s' = s) ∧ ∀ y ∈ rest, ∃ k' c, y = Value.ref c ∧ IsK s.heap k' c) _ (fun v rest r s' hh => ?_) (fun r s' hh => ?_) _ _ ⟨⟨rfl, rfl⟩, hy⟩
  · obtain ⟨⟨_, rfl⟩, hall⟩ := hh
    obtain ⟨k', c, rfl, hc⟩ := hall v List.mem_cons_self
    have rest' : ∀ y ∈ rest, ∃ k' c, y = Value.ref c ∧ IsK s'.heap k' c := fun u hu => hall u (List.mem_cons_of_mem _ hu)
    dsimp only
    by_cases hv : (b == c || (carriedByValue (.ref b) && carriedByValue (.ref c))) = true
    · exact wp_if_pos hv (wpAny_pure ⟨⟨rfl, rfl⟩, rest'⟩)
    · refine wp_if_neg hv (wpAny_bind (quiet_key k _ 8 s' hk.1 hk.2 A E _ ?_))
      simp only [Bool.not_true, Bool.false_eq_true, if_false]
      refine wpAny_bind (quiet_key k' _ 8 s' hc.1 hc.2 A E _ ?_)
      simp only [Bool.not_true, Bool.false_eq_true, if_false]
      refine wpAny_bind (noCls_key k _ 8 s' hk.1 hk.2 A E _ ?_)
      simp only [Bool.false_eq_true, if_false]
      refine wpAny_bind (noCls_key k' _ 8 s' hc.1 hc.2 A E _ ?_)
      simp only [Bool.false_eq_true, if_false]
      exact wpAny_pure ⟨⟨rfl, rfl⟩, rest'⟩
  · obtain ⟨r1, r2⟩ := r
    obtain ⟨⟨e, rfl⟩, _⟩ := hh
    simp only at e
    subst e
    exact wpAny_pure h

/-! ### the set -/
abbrev khash (w : World) (k : NestedKey) : Int := k.hash w
def rowsK (w : World) (L : List (Addr × NestedKey)) : List (Int × Value) := L.map fun p => (khash w p.2, Value.ref p.1)
structure SetK (w : World) (h : Heap) (a : Addr) (L : List (Addr × NestedKey)) (es : Array (Int × Value)) (ep : Nat) (t : SetTable) : Prop where
  ob : ∃ o, h.get? a = some o ∧ o.ExactSet ∧ o.data = .set es ep t
  rows : es.toList = rowsK w L
  tab : TabG t (L.map fun p => khash w p.2)
  nd : (L.map (·.2)).Nodup
  tup : ∀ p ∈ L, IsK h p.2 p.1
  led : w.params.followText "set-order" = true ∨ t.led = true
  four : t.mask = 7 ∨ t.mask = 31 ∨ t.mask = 127 ∨ t.mask = 511
  room : L.length * 5 < t.mask * 3
  few : L.length ≤ 300
variable {a : Addr} {L : List (Addr × NestedKey)} {es : Array (Int × Value)} {ep : Nat} {t : SetTable}
theorem rowsK_len {es : Array (Int × Value)} {L : List (Addr × NestedKey)} (h : es.toList = rowsK w L) : es.size = L.length := by
  have q := congrArg List.length h
  unfold rowsK at q
  rwa [Array.length_toList, List.length_map] at q
theorem rowsK_at {es : Array (Int × Value)} {L : List (Addr × NestedKey)} (h : es.toList = rowsK w L) {i : Nat} {p : Addr × NestedKey} (hp : L[i]? = some p) : es[i]? = some (khash w p.2, Value.ref p.1) := by
  rw [← Array.getElem?_toList, h]
  unfold rowsK
  rw [List.getElem?_map, hp]; rfl
theorem fits_of {t : SetTable} {n m : Nat} (h1 : t.place.size = n) (h2 : t.dummies = #[]) (h3 : n ≤ t.mask) (e : m = n) : t.fits m = true := by
  unfold SetTable.fits SetTable.fill
  rw [h2, Bool.and_eq_true, beq_iff_eq, decide_eq_true_eq]
  show t.place.size = m ∧ t.place.size + 0 ≤ t.mask
  omega
theorem SetK.fits (R : SetK w s.heap a L es ep t) : t.fits es.size = true :=
  fits_of (n := L.length) (by have := R.tab.sz; rwa [List.length_map] at this) R.tab.dm (by have := R.room; omega) (rowsK_len R.rows)
theorem way_keep (m : Nat) : ∀ (n : Nat) (p : SetTable.Probe), p.dummy = none → (nth m p n).dummy = none
  | 0, _, h => h
  | n + 1, p, h => way_keep m n (adv m p) (by unfold adv; split <;> exact h)
/-- the search, from the c-th step of the way on -/
theorem seek_from (R : SetK w s.heap a L es ep t) {x : Addr} {k : NestedKey} (hx : IsK s.heap k x) (hu : A.units + 8 < cLine) {K : Nat} (hKf : K < 10 * SetTable.turns t.mask)
    (hK : way t.mask (khash w k) K ∉ t.place.toList) (hKb : ∀ c, c < K → way t.mask (khash w k) c ∈ t.place.toList) {Q : SetFound → Shared → Prop}
    (hin : k ∈ L.map (·.2) → Q (.there none) s) (hout : k ∉ L.map (·.2) → Q (.free (way t.mask (khash w k) K) false) s) :
    ∀ (f c : Nat) (stand : Option SetTable.Probe), stand.getD (t.probeStart (khash w k)) = nth t.mask (runAt t.mask (SetTable.bits (khash w k) % (t.mask + 1)) (SetTable.bits (khash w k))) c → c ≤ K → K - c < f →
      (∀ (i : Nat) p, L[i]? = some p → p.2 = k → ∃ c', c ≤ c' ∧ c' < K ∧ t.place.toList[i]? = some (way t.mask (khash w k) c')) →
      wpAny (model P w) A (setSearchFrom a (.ref x) (khash w k) true f stand) Q E s
  | 0, c, stand, _, _, hf, _ => absurd hf (Nat.not_lt_zero _)
  | f + 1, c, stand, hst, hc, hf, hre => by
    obtain ⟨o, ho, hex, hd⟩ := R.ob
    rw [setSearchFrom_succ]
    refine wpAny_bind (wpAny_setState_of ho hd R.fits ?_)
    dsimp only
    refine wp_if_neg (by unfold SetTable.gaveWay; rw [R.tab.mg.odd]; decide) ?_
    try refine wpAny_bind (wpAny_pure ?_)
    generalize hst0 : runAt t.mask (SetTable.bits (khash w k) % (t.mask + 1)) (SetTable.bits (khash w k)) = p0 at hst
    have wy : ∀ n, (nth t.mask p0 n).j = way t.mask (khash w k) n := fun n => by rw [← hst0]
    have sh : ∀ q, nth t.mask (nth t.mask p0 c) q = nth t.mask p0 (c + q) := fun q => (nth_add t.mask c _ q).symm
    have e1 : ∀ q, (nth t.mask (nth t.mask p0 c) q).j = way t.mask (khash w k) (c + q) := fun q => by rw [sh, wy]
    have hno : ∀ i : Nat, ∀ p, L[i]? = some p → (fun i => (es[i]?.map (·.1)).getD 0) i = khash w p.2 := fun i p hp => by
      show (es[i]?.map (·.1)).getD 0 = _
      rw [rowsK_at R.rows hp]; rfl
    have len : t.place.toList.length = L.length := by
      have := R.tab.sz
      rw [List.length_map] at this
      rw [Array.length_toList]; exact this
    rcases go_spec t R.tab.up R.tab.dm (fun i => (es[i]?.map (·.1)).getD 0) (khash w k) (10 * SetTable.turns t.mask) (K - c) (nth t.mask p0 c) (way_keep _ _ _ (by rw [← hst0]; rfl)) (by omega)
      (fun q hq => by rw [e1]; exact hKb (c + q) (by omega)) (by rw [e1, show c + (K - c) = K by omega]; exact hK) with ⟨q, i, hq, hi, hh, hmiss, hpr⟩ | ⟨hmiss, hpr⟩
    · have hpr' : t.probe (fun i => (es[i]?.map (·.1)).getD 0) (khash w k) (stand.getD (t.probeStart (khash w k))) = some (.candidate (way t.mask (khash w k) (c + q)) i (nth t.mask p0 (c + (q + 1)))) := by
        rw [hst, ← e1, ← sh]; exact hpr
      rw [hpr']
      dsimp only
      rw [e1] at hi
      have hil : i < L.length := by rw [← len]; exact (List.getElem?_eq_some_iff.mp hi).1
      obtain ⟨p, hp⟩ : ∃ p, L[i]? = some p := ⟨_, List.getElem?_eq_getElem hil⟩
      have hmem : p ∈ L := List.mem_of_getElem? hp
      have hpt := R.tup p hmem
      have go : wpAny (model P w) A (searchRest a (.ref x) (khash w k) true f es t (way t.mask (khash w k) (c + q)) i (nth t.mask p0 (c + (q + 1)))) Q E s := by
        unfold searchRest
        rw [rowsK_at R.rows hp]
        dsimp only
        refine wpAny_bind (wpAny_holding (eqAt_key p.2 k A s _ _ hpt.1 hx.1 (by have := hpt.2; omega) _ _ _ _ ?_))
        refine wpAny_bind (wpAny_setState_of ho hd R.fits ?_)
        dsimp only
        rw [← NestedKey.decide_eq]
        by_cases hkk : p.2 = k
        · refine wp_if_pos (by simp [hkk]) (wpAny_pure (hin (List.mem_map.mpr ⟨p, hmem, hkk⟩)))
        · refine wp_if_neg (by simp [hkk]) ?_
          try refine wpAny_bind (wpAny_pure ?_)
          rw [sameMem]
          dsimp only
          have hsl : t.slot (way t.mask (khash w k) (c + q)) = .live i := slot_live R.tab.up hi
          simp only [if_true, hsl, rowsK_at R.rows hp]
          refine wpAny_bind (wpAny_isSame_ref_self (wpAny_bind (wpAny_pure ?_)))
          simp only [if_true]
          refine wp_if_neg (by simp [hkk]) ?_
          refine seek_from R hx hu hKf hK hKb hin hout f (c + (q + 1)) _ (by rw [hst0]; rfl) (by omega) (by omega) fun i0 q0 h0 hk0 => ?_
          obtain ⟨c', a1, a2, a3⟩ := hre i0 q0 h0 hk0
          refine ⟨c', ?_, a2, a3⟩
          rcases Nat.lt_trichotomy c' (c + q) with z | z | z
          · exact absurd ((hno i0 q0 h0).trans (congrArg (khash w) hk0)) (hmiss (c' - c) i0 (by omega) (by rw [e1, show c + (c' - c) = c' by omega]; exact a3))
          · exfalso
            rw [z] at a3
            have s0 := slot_live R.tab.up a3
            rw [hsl] at s0
            injection s0 with s0
            subst s0
            rw [hp] at h0
            cases h0
            exact hkk hk0
          · omega
      by_cases hl : t.led = true
      · refine wp_if_neg (by simp [hl]) ?_
        try refine wpAny_bind (wpAny_pure ?_)
        exact go
      · refine wp_if_pos (by simp [hl]) ?_
        refine wpAny_bind (seen_key hx (fun y hy => ?_) ?_)
        · obtain ⟨e, he, ee⟩ := List.mem_map.mp hy
          have he1 : e ∈ es ∧ e.1 = khash w k := by simpa using he
          have he2 : e ∈ es.toList := by simpa using he1.1
          rw [R.rows] at he2
          obtain ⟨p2, hp2, e2⟩ := List.mem_map.mp he2
          exact ⟨p2.2, p2.1, by rw [← ee, ← e2], R.tup p2 hp2⟩
        · refine wp_if_neg (by decide) ?_
          try refine wpAny_bind (wpAny_pure ?_)
          exact go
    · have hpr' : t.probe (fun i => (es[i]?.map (·.1)).getD 0) (khash w k) (stand.getD (t.probeStart (khash w k))) = some (.empty (way t.mask (khash w k) K) none) := by
        have e2 : way t.mask (khash w k) K = (nth t.mask (nth t.mask p0 c) (K - c)).j := by rw [e1, show c + (K - c) = K by omega]
        rw [hst, e2]; exact hpr
      rw [hpr']
      dsimp only
      refine wpAny_pure (hout fun hm => ?_)
      obtain ⟨q0, h0, hk0⟩ := List.mem_map.mp hm
      obtain ⟨i0, h00⟩ := List.mem_iff_getElem?.mp h0
      obtain ⟨c', a1, a2, a3⟩ := hre i0 q0 h00 hk0
      exact hmiss (c' - c) i0 (by omega) (by rw [e1, show c + (c' - c) = c' by omega]; exact a3) ((hno i0 q0 h00).trans (congrArg (khash w) hk0))
/-- the search as adding asks for it -/
theorem seek_at (R : SetK w s.heap a L es ep t) {x : Addr} {k : NestedKey} (hx : IsK s.heap k x) (hu : A.units + 8 < cLine) {Q : SetFound → Shared → Prop}
    (hin : k ∈ L.map (·.2) → Q (.there none) s)
    (hout : ∀ K, k ∉ L.map (·.2) → way t.mask (khash w k) K ∉ t.place.toList → (∀ c, c < K → way t.mask (khash w k) c ∈ t.place.toList) → Q (.free (way t.mask (khash w k) K) false) s) :
    wpAny (model P w) A (setSearch a (.ref x) (khash w k) true) Q E s := by
  have hroom := R.room
  obtain ⟨K, hKf, hK, hKb⟩ := R.tab.free (by rw [List.length_map]; omega) (khash w k)
  have hbig : 10 * SetTable.turns t.mask ≤ 6000 := by
    have := R.tab.mg.le
    unfold SetTable.turns
    omega
  unfold setSearch
  refine seek_from R hx hu hKf hK hKb hin (fun hn => hout K hn hK hKb) 100000 0 none rfl (Nat.zero_le _) (by omega) fun i p hp hk => ?_
  have hi : (L.map fun p => khash w p.2)[i]? = some (khash w k) := by rw [List.getElem?_map, hp, ← hk]; rfl
  have hil : i < t.place.toList.length := by
    have h1 : i < L.length := (List.getElem?_eq_some_iff.mp hp).1
    have h2 := R.tab.sz
    rw [List.length_map] at h2
    rw [Array.length_toList]
    omega
  have hj := List.getElem?_eq_getElem hil
  obtain ⟨c, hc, e⟩ := R.tab.ahead hK hi hj
  exact ⟨c, Nat.zero_le _, hc, by rw [hj, e]⟩
end
end DL

/-! DL, part v: adding to a set of tuples, set(xs). -/
namespace DL
open PySem PySem.Spec PyProof.Rows L2
section
variable {P : Program} {w : World} {A : Around} {E : Value → Shared → Prop} {s : Shared} {a : Addr} {L : List (Addr × NestedKey)} {es : Array (Int × Value)} {ep : Nat} {t : SetTable}
theorem IsK.keep {h h' : Heap} {k : NestedKey} {b : Addr} (x : IsK h k b) (hk : ∀ c o, h.get? c = some o → h'.get? c = some o) : IsK h' k b := ⟨NestedIs.at (fun c o _ _ e _ => hk c o e) _ _ x.1, x.2⟩
/-- the set itself is no key -/
theorem IsK.but {h h' : Heap} {k : NestedKey} {a b : Addr} {o : Obj} {es : Array (Int × Value)} {ep : Nat} {t : SetTable} (x : IsK h k b) (ho : h.get? a = some o) (hd : o.data = .set es ep t) (hs : Heap.SameBut a h h') : IsK h' k b := by
  refine ⟨NestedIs.at (fun c u vs n e q => (hs.2 c fun z => ?_).trans e) _ _ x.1, x.2⟩
  subst z
  rw [ho] at e
  cases e
  rw [hd] at q
  cases q
theorem SetK.moved {h h' : Heap} (R : SetK w h a L es ep t) (ha : ∀ o, h.get? a = some o → h'.get? a = some o) (ht : ∀ p ∈ L, IsK h' p.2 p.1) : SetK w h' a L es ep t := by
  obtain ⟨o, ho, r⟩ := R.ob
  exact ⟨⟨o, ha o ho, r⟩, R.rows, R.tab, R.nd, ht, R.led, R.four, R.room, R.few⟩
theorem range_all {α : Type} (L : List α) : (List.range L.length).filterMap (fun i => L[i]?) = L := by
  have key : ∀ n, n ≤ L.length → (List.range n).filterMap (fun i => L[i]?) = L.take n := by
    intro n
    induction n with
    | zero => exact fun _ => rfl
    | succ n ih =>
      intro hn
      have hlt : n < L.length := hn
      rw [List.range_succ, List.filterMap_append, ih (Nat.le_of_lt hlt), List.take_succ, List.filterMap_cons_some (List.getElem?_eq_getElem hlt), List.getElem?_eq_getElem hlt]
      rfl
  rw [key _ (Nat.le_refl _), List.take_length]
theorem order_L {es : Array (Int × Value)} {L : List (Addr × NestedKey)} (order : Array Nat) (hr : es.toList = rowsK w L) (hp : order.toList.Perm (List.range L.length)) :
    ∃ L2, (order.filterMap (es[·]?)).toList = rowsK w L2 ∧ L2.Perm L ∧ (L2.map fun p => khash w p.2) = order.toList.map fun i => (es.map (·.1)).getD i 0 := by
  have key : ∀ l : List Nat, (∀ i ∈ l, i < L.length) → ∃ L2 : List (Addr × NestedKey), l.filterMap (fun i => es[i]?) = rowsK w L2 ∧ L2 = l.filterMap (fun i => L[i]?) ∧ (L2.map fun p => khash w p.2) = l.map fun i => (es.map (·.1)).getD i 0 := by
    intro l
    induction l with
    | nil => exact fun _ => ⟨[], rfl, rfl, rfl⟩
    | cons i l ih =>
      intro hl
      have hi := hl i List.mem_cons_self
      obtain ⟨L2, e1, e2, e3⟩ := ih fun j hj => hl j (List.mem_cons_of_mem _ hj)
      have hL : L[i]? = some L[i] := List.getElem?_eq_getElem hi
      have hE := rowsK_at hr hL
      refine ⟨L[i] :: L2, by rw [List.filterMap_cons_some hE, e1]; rfl, by rw [List.filterMap_cons_some hL, e2], ?_⟩
      rw [List.map_cons, List.map_cons, e3]
      have e5 : (es.map (·.1))[i]? = some (khash w (L[i]).2) := by rw [Array.getElem?_map, hE]; rfl
      simp [Array.getD_eq_getD_getElem?, e5]
  obtain ⟨L2, e1, e2, e3⟩ := key order.toList fun i hi => List.mem_range.mp (hp.mem_iff.mp hi)
  refine ⟨L2, by simpa using e1, ?_, e3⟩
  rw [e2]
  have q := hp.filterMap (fun i => L[i]?)
  rw [range_all] at q
  exact q
/-- the table laid anew, larger -/
theorem regrow {o : Obj} (ho : s.heap.get? a = some o) (hex : o.ExactSet) (hd : o.data = .set es ep t) (hrows : es.toList = rowsK w L) (hsz : t.place.size = es.size) (hdm : t.dummies = #[]) (hfl : es.size ≤ t.mask)
    (nd : (L.map (·.2)).Nodup) (tup : ∀ p ∈ L, IsK s.heap p.2 p.1) (ld : w.params.followText "set-order" = true ∨ t.led = true) (few : L.length ≤ 300) {wanted M : Nat}
    (hw : SetTable.sizeAbove wanted - 1 = M) (hM : MaskG M) (h4 : M = 7 ∨ M = 31 ∨ M = 127 ∨ M = 511) (hw2 : SetTable.sizeAbove wanted ≤ 512) (hn : L.length * 5 < M * 3) {Q : Unit → Shared → Prop}
    (hQ : ∀ h' L' es' ep' t', Heap.SameBut a s.heap h' → SetK w h' a L' es' ep' t' → L'.Perm L → Q () { s with heap := h' }) : wpAny (model P w) A (setRelay a wanted) Q E s := by
  have hsl := rowsK_len hrows
  obtain ⟨t', order, e, hp, T, em, el, ep'⟩ := relay_ok t (hs := es.map (·.1)) (wanted := wanted) hw hM (by rw [Array.size_map, hsl]; omega)
  rw [Array.size_map, hsl] at hp
  obtain ⟨L2, r1, r2, r3⟩ := order_L order hrows hp
  rw [← r3] at T
  have hs2 : (order.filterMap (es[·]?)).size = es.size := by rw [rowsK_len r1, r2.length_eq, hsl]
  rw [setRelay_eq]
  refine wpAny_bind (wpAny_setState_of ho hd (fits_of hsz hdm hfl rfl) ?_)
  dsimp only
  refine wp_if_neg (by rw [sizeLine_eq]; omega) ?_
  try refine wpAny_bind (wpAny_pure ?_)
  rw [e]
  dsimp only
  refine wpAny_bind ?_
  refine wp_if_neg (by rw [hs2]; simp) ?_
  try refine wpAny_bind (wpAny_pure ?_)
  refine wpAny_pure ?_
  dsimp only
  refine wpAny_storeSet_of ho hd ?_ (by rw [hs2, hsl, sizeLine_eq]; omega)
  have sb : Heap.SameBut a s.heap (s.heap.update a (Obj.putSet (order.filterMap (es[·]?)) t')) := Heap.SameBut.update ..
  refine hQ _ L2 (order.filterMap (es[·]?)) (ep + 1) t' sb ⟨⟨_, store_at ho hd, ⟨hex.1, hex.2.1, hex.2.2⟩, rfl⟩, r1, T, (r2.map (·.2)).nodup_iff.mpr nd, fun p hpm => (tup p (r2.mem_iff.mp hpm)).but ho hd sb, by rw [el]; exact ld, by rw [em]; exact h4, by rw [r2.length_eq, em]; exact hn, by rw [r2.length_eq]; exact few⟩ r2
theorem rowsK_put (L : List (Addr × NestedKey)) (p : Nat) (x : Addr) (k : NestedKey) : rowsK w (L.take p ++ (x, k) :: L.drop p) = (rowsK w L).take p ++ (khash w k, Value.ref x) :: (rowsK w L).drop p := by
  unfold rowsK
  rw [List.map_append, List.map_cons, List.map_take, List.map_drop]
/-- adding -/
theorem put_in (R : SetK w s.heap a L es ep t) {x : Addr} {k : NestedKey} (hx : IsK s.heap k x) (hu : A.units + 8 < cLine) (hnew : k ∉ L.map (·.2) → L.length + 1 ≤ 300) {Q : Bool → Shared → Prop}
    (hQ : ∀ b h' L' es' ep' t', Heap.SameBut a s.heap h' → SetK w h' a L' es' ep' t' → (k ∈ L.map (·.2) → L' = L) → (k ∉ L.map (·.2) → L'.Perm ((x, k) :: L)) → Q b { s with heap := h' }) :
    wpAny (model P w) A (setAddHashed a (.ref x) (khash w k)) Q E s := by
  obtain ⟨o, ho, hex, hd⟩ := R.ob
  have hsl := rowsK_len R.rows
  have hroom := R.room
  unfold setAddHashed
  refine wpAny_holding ?_
  rw [show (100000 : Nat) = 99999 + 1 from rfl, setAddHashedIn_succ]
  refine wpAny_bind (wpAny_setState_of ho hd R.fits ?_)
  dsimp only
  refine wp_if_neg (by simp [byScan, Value.scannable]) ?_
  try refine wpAny_bind (wpAny_pure ?_)
  refine wpAny_bind (seek_at R hx hu (fun hm => ?_) fun K hm hK hb => ?_)
  · dsimp only
    exact wpAny_pure (hQ false s.heap L es ep t (Heap.SameBut.refl a s.heap) R (fun _ => rfl) fun z => absurd hm z)
  · dsimp only
    have hfew := hnew hm
    refine wpAny_bind (wpAny_setState_of ho hd R.fits ?_)
    dsimp only
    obtain ⟨q2, q3, q9⟩ := R.tab.put hK hb
    have q1 : (t.put (way t.mask (khash w k) K)).2 = SetTable.below t.place (way t.mask (khash w k) K) := rfl
    have q4 : (t.put (way t.mask (khash w k) K)).1.mask = t.mask := rfl
    have q5 : (t.put (way t.mask (khash w k) K)).1.led = t.led := rfl
    generalize hpt : t.put (way t.mask (khash w k) K) = pt at q1 q3 q4 q5 q9 ⊢
    obtain ⟨t1, p⟩ := pt
    dsimp only at q1 q3 q4 q5 q9 ⊢
    subst q1
    have hin : (SetTable.insertAt es (SetTable.below t.place (way t.mask (khash w k) K)) (khash w k, Value.ref x)).toList = rowsK w (L.take (SetTable.below t.place (way t.mask (khash w k) K)) ++ (x, k) :: L.drop (SetTable.below t.place (way t.mask (khash w k) K))) := by
      rw [SetTable.toList_insertAt, rowsK_put, R.rows]
    generalize hpp : SetTable.below t.place (way t.mask (khash w k) K) = p at q2 q3 hin ⊢
    have pm := put_perm L p (x, k)
    have hlen : (L.take p ++ (x, k) :: L.drop p).length = L.length + 1 := pm.length_eq
    have hhs : (L.take p ++ (x, k) :: L.drop p).map (fun p => khash w p.2) = (L.map fun p => khash w p.2).take p ++ khash w k :: (L.map fun p => khash w p.2).drop p := by
      rw [List.map_append, List.map_cons, List.map_take, List.map_drop]
    rw [← hhs] at q3
    have nd1 : ((L.take p ++ (x, k) :: L.drop p).map (·.2)).Nodup := by
      refine (pm.map (·.2)).nodup_iff.mpr ?_
      rw [List.map_cons]
      exact List.nodup_cons.mpr ⟨hm, R.nd⟩
    have hes : (SetTable.insertAt es p (khash w k, Value.ref x)).size = L.length + 1 := by rw [rowsK_len hin, hlen]
    generalize SetTable.insertAt es p (khash w k, Value.ref x) = es1 at hin hes ⊢
    generalize L.take p ++ (x, k) :: L.drop p = L1 at pm hlen q3 nd1 hin
    rw [List.length_map] at q9
    -- the table's own word on what it hashes by value
    have tail : ∀ t2 : SetTable, t2.place = t1.place → t2.dummies = t1.dummies → t2.mask = t1.mask → t2.led = t1.led →
        wpAny (model P w) A (do
          storeSet a es1 t2
          if (!false && t2.tooFull) = true then setRelay a (SetTable.grown (es.size + 1))
          return true) Q E s := fun t2 z1 z2 z3 z4 => by
      refine wpAny_bind (wpAny_storeSet_of ho hd ?_ (by rw [hes, sizeLine_eq]; omega))
      have sb : Heap.SameBut a s.heap (s.heap.update a (Obj.putSet es1 t2)) := Heap.SameBut.update ..
      have ho1 := store_at (es' := es1) (t' := t2) ho hd
      generalize s.heap.update a (Obj.putSet es1 t2) = h1 at sb ho1 ⊢
      have tup1 : ∀ p ∈ L1, IsK h1 p.2 p.1 := fun p hp => by
        rcases List.mem_cons.mp (pm.mem_iff.mp hp) with e | hp
        · subst e; exact hx.but ho hd sb
        · exact (R.tup p hp).but ho hd sb
      have ld1 : w.params.followText "set-order" = true ∨ t2.led = true := by rw [z4, q5]; exact R.led
      have T2 : TabG t2 (L1.map fun p => khash w p.2) := ⟨by rw [z1]; exact q3.up, by rw [z2]; exact q3.dm, by rw [z1]; exact q3.sz, by rw [z3]; exact q3.mg, by rw [z1, z3]; exact q3.bd, by rw [z1, z3]; exact q3.back⟩
      have fl : t2.fill = L.length + 1 := by
        have : t2.fill = t1.fill := by unfold SetTable.fill; rw [z1, z2]
        rw [this, q9]
      have hm2 : t2.mask = t.mask := z3.trans q4
      by_cases hf : t2.tooFull = true
      · first
          | (refine wpAny_bind ?_; refine wp_if_pos (by simp [hf]) ?_)
          | (refine wp_if_pos (by simp [hf]) ?_; refine wpAny_bind ?_)
        have hfull : (L.length + 1) * 5 ≥ t.mask * 3 := by
          have h := hf
          unfold SetTable.tooFull at h
          rw [decide_eq_true_eq, fl, hm2] at h
          exact h
        rw [hsl]
        have hsz1 : t2.place.size = es1.size := by
          have h := T2.sz
          rw [List.length_map, hlen] at h
          rw [h, hes]
        have go : ∀ M, SetTable.sizeAbove (SetTable.grown (L.length + 1)) - 1 = M → MaskG M → (M = 7 ∨ M = 31 ∨ M = 127 ∨ M = 511) → SetTable.sizeAbove (SetTable.grown (L.length + 1)) ≤ 512 → (L.length + 1) * 5 < M * 3 →
            wpAny (model P w) A (setRelay a (SetTable.grown (L.length + 1))) (fun _ s' => wpAny (model P w) A (pure true) Q E s') E { s with heap := h1 } := fun M h1' h2' h3' h4' h5' => by
          refine regrow (s := { s with heap := h1 }) ho1 ⟨hex.1, hex.2.1, hex.2.2⟩ rfl hin hsz1 T2.dm (by rw [hes, hm2]; have := R.four; omega) nd1 tup1 ld1 (by rw [hlen]; exact hfew) h1' h2' h3' h4' (by rw [hlen]; exact h5') ?_
          intro h2 L2 es2 ep2 t3 sb2 R2 pm2
          exact wpAny_pure (hQ true h2 L2 es2 ep2 t3 (sb.trans sb2) R2 (fun z => absurd z hm) fun _ => pm2.trans pm)
        rcases R.four with e | e | e | e
        · have e2 : L.length = 4 := by omega
          exact go 31 (by rw [e2, size_20]) (.of (.inr (.inl rfl))) (.inr (.inl rfl)) (by rw [e2, size_20]; decide) (by omega)
        · have e2 : L.length = 18 := by omega
          exact go 127 (by rw [e2, size_76]) (.of (.inr (.inr rfl))) (.inr (.inr (.inl rfl))) (by rw [e2, size_76]; decide) (by omega)
        · have e2 : L.length = 76 := by omega
          exact go 511 (by rw [e2, size_308]) maskG511 (.inr (.inr (.inr rfl))) (by rw [e2, size_308]; decide) (by omega)
        · exfalso
          omega
      · first
          | refine wp_if_neg (by simp [hf]) ?_
          | (refine wpAny_bind ?_; refine wp_if_neg (by simp [hf]) ?_; refine wpAny_pure ?_)
        refine wpAny_pure (hQ true h1 L1 es1 (ep + 1) t2 sb ⟨⟨_, ho1, ⟨hex.1, hex.2.1, hex.2.2⟩, rfl⟩, hin, T2, nd1, tup1, ld1, by rw [hm2]; exact R.four, ?_, by rw [hlen]; exact hfew⟩ (fun z => absurd z hm) fun _ => pm)
        have h := hf
        unfold SetTable.tooFull at h
        rw [decide_eq_true_eq, fl] at h
        rw [hlen]
        omega
    by_cases hp1 : t1.plain = true
    · have word : ∀ b : Bool, wpAny (model P w) A (do
          storeSet a es1 (if b = true then t1 else { t1 with plain := false })
          if (!false && (if b = true then t1 else { t1 with plain := false }).tooFull) = true then setRelay a (SetTable.grown (es.size + 1))
          return true) Q E s := fun b => by
        cases b with
        | true => exact tail t1 rfl rfl rfl rfl
        | false => exact tail { t1 with plain := false } rfl rfl rfl rfl
      first
        | (refine wpAny_bind ?_; refine wp_if_pos hp1 ?_; exact hasAns_key k _ 8 s hx.1 A E _ word)
        | exact wp_if_pos hp1 (wpAny_bind (hasAns_key k _ 8 s hx.1 A E _ word))
    · first
        | (refine wpAny_bind ?_; refine wp_if_neg hp1 ?_; refine wpAny_pure ?_; exact tail t1 rfl rfl rfl rfl)
        | (refine wp_if_neg hp1 ?_; exact tail t1 rfl rfl rfl rfl)
end
end DL

/-! DL, part w: set(xs), xs a list of tuples; len of it. -/
namespace DL
open PySem PySem.Spec PyProof.Rows L2
/-- what the set has got of the first i items -/
structure Has (ks : List (Addr × NestedKey)) (i : Nat) (L : List (Addr × NestedKey)) : Prop where
  sub : ∀ p ∈ L, p ∈ ks.take i
  all : ∀ p ∈ ks.take i, p.2 ∈ L.map (·.2)
  len : L.length ≤ i
theorem Has.step {ks L L' : List (Addr × NestedKey)} {i : Nat} {x : Addr × NestedKey} (g : Has ks i L) (h : ks[i]? = some x) (c1 : x.2 ∈ L.map (·.2) → L' = L) (c2 : x.2 ∉ L.map (·.2) → L'.Perm (x :: L)) : Has ks (i + 1) L' := by
  have tk := take_next h
  rcases Classical.em (x.2 ∈ L.map (·.2)) with c | c
  · rw [c1 c]
    refine ⟨fun p hp => ?_, fun p hp => ?_, Nat.le_succ_of_le g.len⟩
    · rw [tk]; exact List.mem_append_left _ (g.sub p hp)
    · rw [tk] at hp
      rcases List.mem_append.mp hp with z | z
      · exact g.all p z
      · rw [List.mem_singleton.mp z]; exact c
  · have pm := c2 c
    refine ⟨fun p hp => ?_, fun p hp => ?_, by rw [pm.length_eq, List.length_cons]; exact Nat.succ_le_succ g.len⟩
    · rw [tk]
      rcases List.mem_cons.mp (pm.mem_iff.mp hp) with e | z
      · rw [e]; exact List.mem_append_right _ (List.mem_singleton.mpr rfl)
      · exact List.mem_append_left _ (g.sub p z)
    · rw [(pm.map (·.2)).mem_iff, List.map_cons]
      rw [tk] at hp
      rcases List.mem_append.mp hp with z | z
      · exact List.mem_cons_of_mem _ (g.all p z)
      · rw [List.mem_singleton.mp z]; exact List.mem_cons_self
section
variable {P : Program} {w : World} {A : Around} {E : Value → Shared → Prop} {s : Shared}
theorem setK_new {h : Heap} {a : Addr} (ho : h.get? a = some (setObj0 w)) : SetK w h a [] #[] 0 (.fresh 0 0 (!w.params.followText "set-order")) where
  ob := ⟨_, ho, ⟨rfl, rfl, rfl⟩, rfl⟩
  rows := rfl
  tab := ⟨List.Pairwise.nil, rfl, rfl, .of (.inl rfl), fun x hx => (nomatch hx), fun i h j hi => (by simp at hi)⟩
  nd := List.nodup_nil
  tup := fun p hp => (nomatch hp)
  led := by
    show _ ∨ (!w.params.followText "set-order") = true
    cases w.params.followText "set-order"
    · exact .inr rfl
    · exact .inl rfl
  four := .inl rfl
  room := show 0 * 5 < 7 * 3 by decide
  few := Nat.zero_le _
/-- set.update's loop, over tuples -/
theorem set_update_keys {I : Addr} {fp wr : List Addr} {G : Array GenState → Array GenState → Prop} {n : Nat} {Pv : Nat → Value → Prop} {St : Nat → Shared → Prop} {R : Result → Shared → Prop}
    (W : WalksS P w A.in1 I fp wr G n Pv St) (S : Addr) (hSf : S ∉ fp) (ks : List (Addr × NestedKey)) (hn : n = ks.length) (hfew : ∀ L : List (Addr × NestedKey), (L.map (·.2)).Nodup → (∀ p ∈ L, p ∈ ks) → L.length ≤ 300) (hval : ∀ i v, Pv i v → ∃ p, ks[i]? = some p ∧ v = .ref p.1)
    (h0 : Heap) (hk : ∀ p ∈ ks, IsK h0 p.2 p.1) (hS0 : h0.get? S = none) (hw0 : ∀ b ∈ wr, h0.get? b = none) (hu : A.in1.units + 8 < cLine) :
    ∀ (k i : Nat) (s : Shared), n - i = k → i ≤ n → St i s → (∀ b o, h0.get? b = some o → s.heap.get? b = some o) → (∃ L es ep t, SetK w s.heap S L es ep t ∧ Has ks i L) →
      (∀ s' L es ep t, Moved (S :: wr) G s s' → SetK w s'.heap S L es ep t → Has ks n L → (∀ b o, h0.get? b = some o → s'.heap.get? b = some o) → R (.ok (.ret .none)) s') →
      codeAny (model P w) A (.builtin "set.update.loop" ⟨[.ref S, .ref I], []⟩) R s := by
  have hSw : S ∉ wr := fun h => hSf (W.sub _ h)
  have hsub : ∀ b ∈ wr, b ∈ S :: wr := fun b hb => List.mem_cons_of_mem _ hb
  have keepM : ∀ {s s' : Shared}, Moved wr G s s' → (∀ b o, h0.get? b = some o → s.heap.get? b = some o) → ∀ b o, h0.get? b = some o → s'.heap.get? b = some o := fun hm hkp b o e =>
    hm.heap b o (fun hb => by rw [hw0 b hb] at e; cases e) (hkp b o e)
  have there : ∀ {i : Nat} {L : List (Addr × NestedKey)}, Has ks i L → ∀ p ∈ L, p ∈ ks := fun g p hp => List.mem_of_mem_take (g.sub p hp)
  intro k
  induction k with
  | zero =>
    intro i s hk' hi hst hkp ⟨L, es, ep, t, hS, g⟩ hR
    obtain rfl : i = n := by omega
    refine codeAny_builtin F.entry_set_update_loop ?_
    rw [Around.under_plainId F.plain_set_update_loop _]
    show wpAny _ A.in1 (pyNext (.ref I) >>= fun _ => _) _ _ s
    refine wpAny_bind (W.done s _ _ hst fun s' hm => ?_)
    show wpAny _ A.in1 (PySem.ret Value.none) _ _ s'
    have hkp' := keepM hm hkp
    exact wpAny_pure (hR s' L es ep t (hm.mono hsub) (hS.moved (fun o e => hm.heap S o hSw e) fun p hp => (hk p (there g p hp)).keep hkp') g hkp')
  | succ k ih =>
    intro i s hk' hi hst hkp ⟨L, es, ep, t, hS, g⟩ hR
    have hlt : i < n := by omega
    refine codeAny_builtin F.entry_set_update_loop ?_
    rw [Around.under_plainId F.plain_set_update_loop _]
    show wpAny _ A.in1 (pyNext (.ref I) >>= fun _ => _) _ _ s
    refine wpAny_bind (W.item i s _ _ hlt hst fun v s' hP hst' hm => ?_)
    obtain ⟨p, hp, rfl⟩ := hval i v hP
    have hkp' := keepM hm hkp
    have hS' : SetK w s'.heap S L es ep t := hS.moved (fun o e => hm.heap S o hSw e) fun q hq => (hk q (there g q hq)).keep hkp'
    have hx : IsK s'.heap p.2 p.1 := (hk p (List.mem_of_getElem? hp)).keep hkp'
    show wpAny _ A.in1 (holding [Value.ref p.1] (setAdd S (.ref p.1)) >>= fun _ => _) _ _ s'
    refine wpAny_bind (wpAny_holding ?_)
    unfold setAdd
    refine wpAny_holding ?_
    refine wpAny_bind (pyHash_key p.2 _ A.in1 s' _ hx.1 (by have := hx.2; omega) ?_)
    refine put_in (s := { s' with toks := s'.toks + p.2.draws }) hS' hx hu (fun c => hfew (p :: L) (List.nodup_cons.mpr ⟨c, hS.nd⟩) fun q hq => by
      rcases List.mem_cons.mp hq with rfl | hq
      · exact List.mem_of_getElem? hp
      · exact there g q hq) fun b h' L' es' ep' t' hsb hS2 c1 c2 => ?_
    have g' : Has ks (i + 1) L' := g.step hp c1 c2
    have hkp2 : ∀ b o, h0.get? b = some o → h'.get? b = some o := fun b o e => (hsb.2 b (fun z => by rw [z, hS0] at e; cases e)).trans (hkp' b o e)
    refine wpAny_pure ⟨plainId_quiet F.plain_set_update_loop _, ih (i + 1) _ (by omega) hlt (W.frame _ s' _ _ hst' (Nat.le_add_right _ _) fun b hb o e => ?_) hkp2 ⟨L', es', ep', t', hS2, g'⟩ fun s'' L2 es2 ep2 t2 hm'' hS'' g'' hkp'' => ?_⟩
    · rw [hsb.2 b (fun h : b = S => hSf (by rw [← h]; exact hb))]; exact e
    · refine hR s'' L2 es2 ep2 t2 (Moved.trans W.gtrans ((hm.mono hsub).then_heap (Nat.le_add_right _ _) fun b o hb e => ?_) hm'') hS'' g'' hkp''
      rw [hsb.2 b (fun h : b = S => hb (by rw [h]; exact List.mem_cons_self))]; exact e
/-- set.__init__ of a list of tuples, on a new set -/
theorem init_set_keys {l : Addr} {items : Array Value} (ks : List (Addr × NestedKey)) {R : Result → Shared → Prop} (hh : A.handled = none) (hl : s.heap.IsList l items) (hit : items.toList = ks.map fun p => Value.ref p.1) {S : Addr} {h0 : Heap}
    (hk0 : ∀ b o, h0.get? b = some o → s.heap.get? b = some o) (hk : ∀ p ∈ ks, IsK h0 p.2 p.1) (hS0 : h0.get? S = none) (hz0 : h0.objs.size ≤ s.heap.objs.size) (hfew : ∀ L : List (Addr × NestedKey), (L.map (·.2)).Nodup → (∀ p ∈ L, p ∈ ks) → L.length ≤ 300) (hu : A.units + 12 < cLine) (hS : s.heap.get? S = some (setObj0 w)) (hlS : l ≠ S)
    (h : ∀ (h' : Heap) (tk : Nat) L es ep t, SetK w h' S L es ep t → Has ks ks.length L → (∀ b o, h0.get? b = some o → h'.get? b = some o) → R (.ok (.ret .none)) { s with heap := h', toks := tk })
    (hT : Shared.TypeIs s (.ref S) "set") :
    codeAny (model P w) A (.call (.builtin "set.__init__") ⟨[.ref S, .ref l], []⟩) R s := by
  have hisz : items.size = ks.length := by
    have q := congrArg List.length hit
    rwa [Array.length_toList, List.length_map] at q
  refine codeAny_mono (codeAny_call_builtin (R := R) F.called_set.init.plain F.entry_set_init (check_set_init_1 hT ?_)) fun _ _ hr => hr
  obtain ⟨ol, hol, hcl, nl, hdl⟩ := hl
  obtain ⟨ocls, odict, odata, oslots⟩ := ol
  simp only at hcl hdl
  subst hcl; subst hdl
  have hsls := F.sub_list_set
  have hslf := F.sub_list_frozenset
  have hne : (Value.type "list" == Value.type "dict") = false := by decide
  have hl1 : s.heap.IsList l items := ⟨_, hol, rfl, nl, rfl⟩
  unfold Builtin.«set.__init__» noKeywords Builtin.Frozenset.updateFrom
  generalize hPI : pyIter = PI
  wp_walk
  subst hPI
  refine wpAny_pyIter_list hl1 (wpAny_bind (wpAny_runValue ?_))
  have hlt : l < s.heap.objs.size := Heap.lt_size hol
  have hSt : S < s.heap.objs.size := Heap.lt_size hS
  have hh3 : A.in1.in1.handled = none := by simp [hh]
  have hval : ∀ (i : Nat) (v : Value), items[i]? = some v → ∃ p, ks[i]? = some p ∧ v = .ref p.1 := fun i v hv => by
    have q : items.toList[i]? = some v := by rw [Array.getElem?_toList]; exact hv
    rw [hit, List.getElem?_map] at q
    obtain ⟨p, hp, e⟩ := Option.map_eq_some_iff.mp q
    exact ⟨p, hp, e.symm⟩
  have hSf : S ∉ [s.heap.objs.size, l] := by
    intro hm
    rcases List.mem_cons.mp hm with e | hm
    · exact Nat.ne_of_lt hSt e
    · exact hlS (List.mem_singleton.mp hm).symm
  refine set_update_keys ((Walks.list hh3 _ l (Nat.ne_of_lt hlt) items).toS) S hSf ks hisz hfew hval h0 hk hS0 (fun b hb => ?_) (by simp only [Around.in1_units]; omega) (items.size - 0) 0 _ (by omega) (Nat.zero_le _)
    ⟨⟨_, Heap.get?_push_size _ rfl, rfl, rfl⟩, hl1.push _⟩ (fun b o e => Heap.get?_push_of_some _ (hk0 b o e)) ⟨[], #[], 0, _, setK_new (Heap.get?_push_of_some _ hS), ⟨fun p hp => (nomatch hp), fun p hp => (by simp at hp), Nat.le_refl _⟩⟩ ?_
  · rw [List.mem_singleton.mp hb]
    exact Heap.get?_none_of_le hz0
  intro s' L es ep t hm hS' g' hkp
  obtain ⟨h', g2, d', tk', os'⟩ := s'
  have eg : g2 = s.gens := hm.gens
  have ed : d' = s.drawn := hm.drawn
  have eo : os' = s.os := hm.os
  subst eg; subst ed; subst eo
  show wpAny _ _ _ _ _ _
  refine wpAny_pure ?_
  show wpAny _ _ (PySem.ret Value.none) _ _ _
  rw [hisz] at g'
  exact wpAny_pure (h h' tk' L es ep t hS' g' hkp)
theorem call_set_keys {l : Addr} {items : Array Value} (ks : List (Addr × NestedKey)) {Q : Value → Shared → Prop} (hh : A.handled = none) (hl : s.heap.IsList l items) (hit : items.toList = ks.map fun p => Value.ref p.1) (hk : ∀ p ∈ ks, IsK s.heap p.2 p.1) (hfew : ∀ L : List (Addr × NestedKey), (L.map (·.2)).Nodup → (∀ p ∈ L, p ∈ ks) → L.length ≤ 300) (hu : A.units + 40 < cLine)
    (h : ∀ (h' : Heap) (tk : Nat) L es ep t, SetK w h' s.heap.objs.size L es ep t → Has ks ks.length L → (∀ b o, s.heap.get? b = some o → h'.get? b = some o) → Q (.ref s.heap.objs.size) { s with heap := h', toks := tk }) :
    wpAny (model P w) A (call (.type "set") [.ref l]) Q E s := by
  obtain ⟨c, tl, hmro⟩ := F.called_set.mro
  have hmade := F.called_set.made
  have hsub := F.called_set.sub
  refine wpAny_call (codeAny_of_tree ?_)
  show wpAny _ _ (callAny (.type "set") _) _ _ _
  refine wpAny_pure ⟨Code.quiet_builtin _ (by decide +kernel), codeAny_builtin F.entry_type_call ?_⟩
  rw [Around.under_plain (weight_type_call_type "set" [.ref l] []) rfl]
  have h1 := F.called_set.notType
  have h2 := F.called_set.canCreate
  have hct := F.typeCall_set_1 (.ref l)
  repeat (any_goals (first | assumption | wp_step))
  refine codeAny_mono (code_set_led1 (.ref l) (E := E) (Q₁ := fun obj s₁ => obj = .ref s.heap.objs.size ∧ s₁ = { s with heap := s.heap.push (setObj0 w) }) ⟨rfl, rfl⟩) fun r s₁ hr => ?_
  cases r with
  | error e => exact hr
  | ok fl =>
    cases fl with
    | ret obj =>
      obtain ⟨rfl, rfl⟩ := hr
      have hS : (s.heap.push (setObj0 w)).get? s.heap.objs.size = some (setObj0 w) := Heap.get?_push_size _ rfl
      have hT : Shared.TypeIs { s with heap := s.heap.push (setObj0 w) } (.ref s.heap.objs.size) "set" := ⟨_, hS, rfl⟩
      have hli := F.called_set.init.lookup
      have hbi := F.called_set.init.bind (.ref s.heap.objs.size)
      have hlt : l < s.heap.objs.size := by
        obtain ⟨ol, hol, _⟩ := hl
        exact Heap.lt_size hol
      repeat (any_goals (first | assumption | wp_step))
      refine codeAny_mono (init_set_keys (s := { s with heap := s.heap.push (setObj0 w) }) (R := wants (fun r s₂ => r = .none ∧ ∃ h' tk L es ep t, s₂ = { s with heap := h', toks := tk } ∧ SetK w h' s.heap.objs.size L es ep t ∧ Has ks ks.length L ∧
          (∀ b o, s.heap.get? b = some o → h'.get? b = some o)) E) (h0 := s.heap) ks (by simp [hh]) (hl.push _) hit (fun b o e => Heap.get?_push_of_some _ e) hk (Heap.get?_none_of_le (Nat.le_refl _)) (by rw [Heap.size_push]; exact Nat.le_succ _) hfew (by simp only [Around.in1_units]; omega) hS (Nat.ne_of_lt hlt) (fun h' tk L es ep t a1 a2 a3 => ?_) hT) fun r₂ s₂ hr₂ => ?_
      · exact ⟨rfl, h', tk, L, es, ep, t, rfl, a1, a2, a3⟩
      · cases r₂ with
        | error e => exact hr₂
        | ok fl₂ =>
          cases fl₂ with
          | ret r =>
            obtain ⟨rfl, h', tk, L, es, ep, t, rfl, hS', g', hk'⟩ := hr₂
            repeat (any_goals (first | assumption | wp_step))
            exact h _ _ _ _ _ _ hS' g' hk'
          | _ => exact hr₂.elim
    | _ => exact hr.elim
end
end DL

/-! DL, part x: len(set(xs)), xs a list of tuples, as data. -/
namespace DL
open PySem PySem.Spec PyProof.Rows L2
mutual
/-- a datum as a key -/
def nkD : PyData → Option NestedKey
  | .none => some .none
  | .bool b => some (.num (if b = true then 1 else 0))
  | .int i => some (.num i)
  | .str x => some (.text x)
  | .tuple ds => match nksD ds with
    | some ks => some (.tup ks)
    | none => none
  | .list _ => none
  | .dict _ => none
def nksD : List PyData → Option (List NestedKey)
  | [] => some []
  | d :: ds => match nkD d with
    | some k => match nksD ds with
      | some ks => some (k :: ks)
      | none => none
    | none => none
end
/-- tuples, as keys -/
def isTup : NestedKey → Bool
  | .tup ks => decide (NestedKey.depth (.tup ks) ≤ 8)
  | _ => false
theorem nksD_cons {d : PyData} {ds : List PyData} {ks : List NestedKey} (h : nksD (d :: ds) = some ks) : ∃ k r, nkD d = some k ∧ nksD ds = some r ∧ ks = k :: r := by
  rw [nksD] at h
  split at h
  · split at h
    · cases h
      exact ⟨_, _, by assumption, by assumption, rfl⟩
    · cases h
  · cases h
theorem nodup_le : ∀ {l m : List NestedKey}, l.Nodup → (∀ k ∈ l, k ∈ m) → l.length ≤ m.length
  | [], _, _, _ => Nat.zero_le _
  | x :: l, m, h, s => by
    obtain ⟨h1, h2⟩ := List.nodup_cons.mp h
    have hx : x ∈ m := s x List.mem_cons_self
    have ih := nodup_le (l := l) (m := m.erase x) h2 fun y hy => (List.mem_erase_of_ne fun e : y = x => h1 (e ▸ hy)).2 (s y (List.mem_cons_of_mem _ hy))
    have e := List.length_erase_of_mem hx
    have hp : 0 < m.length := List.length_pos_of_mem hx
    rw [List.length_cons]
    omega
/-- each once -/
def uniqK : List NestedKey → List NestedKey
  | [] => []
  | k :: r => if (uniqK r).any (NestedKey.beq k) = true then uniqK r else k :: uniqK r
theorem any_beq {k : NestedKey} {l : List NestedKey} : l.any (NestedKey.beq k) = true ↔ k ∈ l := by
  rw [List.any_eq_true]
  constructor
  · rintro ⟨x, h, e⟩
    rw [NestedKey.eq_of_beq _ _ e]
    exact h
  · intro h
    exact ⟨k, h, NestedKey.beq_self k⟩
theorem uniqK_mem (k : NestedKey) : ∀ l : List NestedKey, k ∈ uniqK l ↔ k ∈ l
  | [] => by simp [uniqK]
  | x :: r => by
    have ih := uniqK_mem k r
    unfold uniqK
    split
    · rename_i h
      rw [any_beq] at h
      rw [List.mem_cons, ih]
      constructor
      · exact .inr
      · rintro (e | h')
        · rw [e]; exact (uniqK_mem x r).mp h
        · exact h'
    · rw [List.mem_cons, List.mem_cons, ih]
theorem uniqK_nodup : ∀ l : List NestedKey, (uniqK l).Nodup
  | [] => .nil
  | x :: r => by
    unfold uniqK
    split
    · exact uniqK_nodup r
    · rename_i h
      exact List.nodup_cons.mpr ⟨fun z => h (any_beq.mpr z), uniqK_nodup r⟩
section
variable {X : Cx} {pins : List (Addr × Obj)} {σ : L2.St} {H F : Hp} {s : Shared}
mutual
theorem nested_of (I : Inv X pins σ H s) (sm : Same F H) : ∀ {v : V} {d : PyData} {k : NestedKey} {u : Value}, Rp X.K F v d → nkD d = some k → L2.RelV v u → NestedIs s.heap k u
  | _, _, _, _, .non, e, r => by cases e; cases r; exact .none
  | _, _, _, _, .bl b, e, r => by cases e; cases r; exact .bool rfl
  | _, _, _, _, .int i, e, r => by cases e; obtain ⟨t, rfl⟩ := r; exact .int i t
  | _, _, _, _, .str x, e, r => by cases e; obtain ⟨t, rfl⟩ := r; exact .text x t
  | _, _, _, _, .lst h1 h2, e, r => by simp [nkD] at e
  | _, .tuple ds, k, _, .tup h1 h2, e, r => by
    rw [nkD] at e
    split at e
    · rename_i ks hk
      cases e
      cases r
      obtain ⟨its, rv, ⟨o, ho, hc, n, hd⟩, _⟩ := I.tuple (sqt_mono sm h1)
      exact .tup ho hc hd (nesteds_of I sm h2 hk rv)
    · cases e
  | _, _, _, _, .dK h1 h2 h3, e, r => by simp [nkD] at e
  | _, _, _, _, .dT h1 h2 h3, e, r => by simp [nkD] at e
theorem nesteds_of (I : Inv X pins σ H s) (sm : Same F H) : ∀ {vs : List V} {ds : List PyData} {ks : List NestedKey} {us : List Value}, RpAll X.K F vs ds → nksD ds = some ks → L2.Vals vs us → NestedAll s.heap ks us
  | _, _, _, _, .nil, e, .nil => by cases e; exact .nil
  | _, _, _, _, .cons h1 h2, e, .cons r1 r2 => by
    obtain ⟨k, r, e1, e2, rfl⟩ := nksD_cons e
    exact .cons (nested_of I sm h1 e1 r1) (nesteds_of I sm h2 e2 r2)
end
/-- the items, by address and key -/
theorem addr_keys {K : PySem.W.Frag} {F : Hp} : ∀ {vs : List V} {ds : List PyData} {ks : List NestedKey}, RpAll K F vs ds → nksD ds = some ks → ks.all isTup = true →
    ∃ ps : List (Addr × NestedKey), vs = ps.map (fun p => V.ref p.1) ∧ ks = ps.map (·.2) ∧ ∀ p ∈ ps, p.2.depth ≤ 8 ∧ ∃ d ∈ ds, nkD d = some p.2 ∧ Rp K F (.ref p.1) d
  | _, _, _, .nil, e, _ => by cases e; exact ⟨[], rfl, rfl, fun _ h => nomatch h⟩
  | _, d :: ds, ks, .cons h1 h2, e, hall => by
    obtain ⟨k, r, e1, e2, rfl⟩ := nksD_cons e
    rw [List.all_cons, Bool.and_eq_true] at hall
    obtain ⟨ps, q1, q2, q3⟩ := addr_keys h2 e2 hall.2
    cases d with
    | tuple es =>
      obtain ⟨a, xs, rfl, hs, hr⟩ := h1.tup_inv
      refine ⟨(a, k) :: ps, by rw [q1]; rfl, by rw [q2]; rfl, fun p hp => ?_⟩
      rcases List.mem_cons.mp hp with rfl | hp
      · refine ⟨?_, _, List.mem_cons_self, e1, .tup hs hr⟩
        have h8 := hall.1
        rw [nkD] at e1
        split at e1
        · cases e1
          unfold isTup at h8
          exact of_decide_eq_true h8
        · cases e1
      · obtain ⟨a1, d, a2, a3⟩ := q3 p hp
        exact ⟨a1, d, List.mem_cons_of_mem _ a2, a3⟩
    | none => cases e1; exact absurd hall.1 (by simp [isTup])
    | bool b => cases e1; exact absurd hall.1 (by simp [isTup])
    | int i => cases e1; exact absurd hall.1 (by simp [isTup])
    | str x => cases e1; exact absurd hall.1 (by simp [isTup])
    | list _ => simp [nkD] at e1
    | dict _ => simp [nkD] at e1
/-- the set at a, without its tuples -/
structure SetK0 (w : World) (h : Heap) (a : Addr) (L : List (Addr × NestedKey)) : Prop where
  ex : ∃ (es : Array (Int × Value)) (ep : Nat) (t : SetTable), (∃ o, h.get? a = some o ∧ o.ExactSet ∧ o.data = .set es ep t) ∧ es.toList = rowsK w L ∧ TabG t (L.map fun p => khash w p.2) ∧ (L.map (·.2)).Nodup ∧
    (w.params.followText "set-order" = true ∨ t.led = true) ∧ (t.mask = 7 ∨ t.mask = 31 ∨ t.mask = 127 ∨ t.mask = 511) ∧ L.length * 5 < t.mask * 3 ∧ L.length ≤ 300
def SetKO (w : World) (a : Addr) (L : List (Addr × NestedKey)) : HO := .ext fun h => SetK0 w h a L
theorem SetK.k0 {w : World} {h : Heap} {a : Addr} {L : List (Addr × NestedKey)} {es : Array (Int × Value)} {ep : Nat} {t : SetTable} (R : SetK w h a L es ep t) : SetK0 w h a L :=
  ⟨es, ep, t, R.ob, R.rows, R.tab, R.nd, R.led, R.four, R.room, R.few⟩
theorem SetK0.full {w : World} {h : Heap} {a : Addr} {L : List (Addr × NestedKey)} (R : SetK0 w h a L) (ht : ∀ p ∈ L, IsK h p.2 p.1) : ∃ es ep t, SetK w h a L es ep t := by
  obtain ⟨es, ep, t, h1, h2, h3, h4, h5, h6, h7, h8⟩ := R.ex
  exact ⟨es, ep, t, h1, h2, h3, h4, ht, h5, h6, h7, h8⟩
theorem setKO_new {P : Program} {w : World} {H : Hp} {h : Heap} {a : Addr} {L : List (Addr × NestedKey)} (R : SetK0 w h a L) : ObjOk P w H h a (SetKO w a L) := by
  have ⟨es, ep, t, ⟨o, ho, r⟩, q⟩ := R.ex
  refine ⟨R, ⟨o, ho⟩, fun h1 h2 p k => ?_⟩
  have ⟨es', ep', t', ⟨o', ho', r'⟩, q'⟩ := SetK0.ex p
  exact ⟨es', ep', t', ⟨o', k o' ho', r'⟩, q'⟩
theorem refs_vals : ∀ {ks : List (Addr × NestedKey)} {us : List Value}, Vals (ks.map fun p => V.ref p.1) us → us = ks.map fun p => Value.ref p.1
  | [], _, .nil => rfl
  | p :: ks, _, .cons r t => by
    cases r
    rw [refs_vals t]; rfl
/-- set(xs), xs a list of tuples -/
def rSetKeys (K : PySem.W.Frag) (w : World) : List V → Hp → VK → Prop := fun xs H Q => ∃ (F : Hp) (l : Addr) (vs : List V) (ds : List PyData) (ks : List NestedKey), xs = [V.ref l] ∧ Same F H ∧ SqL K H l vs ∧ RpAll K F vs ds ∧ nksD ds = some ks ∧ ks.all isTup = true ∧ (uniqK ks).length ≤ 300 ∧
  ∀ a L, H a = none → (L.map (·.2)).Nodup → (∀ k, k ∈ L.map (·.2) ↔ k ∈ ks) → (∀ p ∈ L, p.2.depth ≤ 8 ∧ ∃ d ∈ ds, nkD d = some p.2 ∧ Rp K F (.ref p.1) d) → Q (.ref a) (upd H a (SetKO w a L))
theorem cr_setKeys (hc : X.calm = true) (hu : X.A.units + 64 < cLine) : CallR X (.type "set") (rSetKeys X.K X.w) := by
  intro pins s σ H xs us Q I r h
  obtain ⟨F, l, vs, ds, ks, rfl, sm, hl, hr, hk, hall, hz, q⟩ := h
  rw [Vals.ref1 r]
  obtain ⟨ps, rfl, rfl, hps⟩ := addr_keys hr hk hall
  obtain ⟨its, rv, pl, _⟩ := I.list hl
  have hn : H s.heap.objs.size = none := I.hok.fresh (Nat.le_refl _)
  refine call_set_keys ps (I.ok.hd hc) pl.isList (by simpa using refs_vals rv) (fun p hp => ?_) (fun L nd sub => ?_) (by omega) fun h' tk L es ep t R g k => ?_
  · obtain ⟨h8, d, _, e1, e2⟩ := hps p hp
    exact ⟨nested_of I sm e2 e1 rfl, h8⟩
  · refine Nat.le_trans ?_ hz
    have q := nodup_le (l := L.map (·.2)) (m := uniqK (ps.map (·.2))) nd fun k hk => by
      obtain ⟨p, hp, rfl⟩ := List.mem_map.mp hk
      exact (uniqK_mem _ _).mpr (List.mem_map.mpr ⟨p, sub p hp, rfl⟩)
    rwa [List.length_map] at q
  · have sub : ∀ p ∈ L, p ∈ ps := fun p hp => by have := g.sub p hp; rwa [List.take_length] at this
    have all : ∀ p ∈ ps, p.2 ∈ L.map (·.2) := fun p hp => g.all p (by rwa [List.take_length])
    refine ⟨.ref s.heap.objs.size, upd H s.heap.objs.size (SetKO X.w s.heap.objs.size L), I.laid (t' := tk) k (Nat.le_refl _) (setKO_new R.k0), rfl, q _ L hn R.nd (fun k => ⟨fun hm => ?_, fun hm => ?_⟩) fun p hp => hps p (sub p hp)⟩
    · obtain ⟨p, hp, rfl⟩ := List.mem_map.mp hm
      exact List.mem_map.mpr ⟨p, sub p hp, rfl⟩
    · obtain ⟨p, hp, rfl⟩ := List.mem_map.mp hm
      exact all p hp
/-- len of such a set -/
def rLenKeys (w : World) : List V → Hp → VK → Prop := fun xs H Q => ∃ (a : Addr) (L : List (Addr × NestedKey)), xs = [V.ref a] ∧ H a = some (SetKO w a L) ∧ Q (.int L.length) H
theorem cr_lenKeys : CallR X (.builtin "len") (rLenKeys X.w) := by
  intro pins s σ H xs us Q I r h
  obtain ⟨a, L, rfl, ha, q⟩ := h
  rw [Vals.ref1 r]
  have R : SetK0 X.w s.heap a L := (I.hok a _ ha).1
  obtain ⟨es, ep, t, ⟨o, ho, hex, hd⟩, h2, h3, h4, h5, h6, h7, h8⟩ := R.ex
  have hs := rowsK_len h2
  have hz : t.place.size = L.length := by have := h3.sz; rwa [List.length_map] at this
  refine call_len_set ho hex hd (fits_of hz h3.dm (by omega) hs) (by omega) ⟨.int L.length, H, I.tok _, ⟨_, by rw [hs]⟩, q⟩
end
/-- len(set(xs)), xs a list of tuples -/
def lenSetKD := arg1 fun d => match d with
  | .list ds => match nksD ds with
    | some ks => if ks.all isTup = true ∧ (uniqK ks).length ≤ 300 then some (.int ((uniqK ks).length : Int)) else none
    | none => none
  | _ => none
theorem de_lenSetK {X : Cx} {e : Expr} {a : DM} (h : PE X e (tCB (rLenKeys X.w) (tCons (tCB (rSetKeys X.K X.w) (tCons (rdL X.K a) tNil)) tNil))) : DE X e (dCallB lenSetKD (aCons a aNil)) := h.imp fun σ H Q ⟨F, B, W, env, n, ds, n', rl, e, k⟩ => by
  obtain ⟨x, n1, e1, e⟩ := bnd_some e
  obtain ⟨d, n2, e3, e4⟩ := bnd_some e1
  rw [aNil, bnd_ret] at e4
  obtain ⟨rfl, rfl⟩ := ret_some e4
  obtain ⟨e5, rfl⟩ := lift_some e
  obtain ⟨d, hx, e6⟩ := arg1_some e5
  cases hx
  refine ⟨F, B, W, env, n, d, _, rl, e3, fun v F1 H1 g1 rl1 p1 => ?_⟩
  cases d with
  | list es =>
    simp only at e6
    split at e6
    · rename_i ks hk
      split at e6
      · rename_i hz
        cases e6
        obtain ⟨b, xs, rfl, hb, r⟩ := p1.lp.lst_inv rl1.zn.ff
        refine ⟨F1, b, xs, es, ks, rfl, rl1.zn.ff, .of hb, r, hk, hz.1, hz.2, fun p L hp nd hm _ => ⟨p, L, rfl, upd_same, ?_⟩⟩
        have gr : Gr F1 H1 F1 (upd H1 p (SetKO X.w p L)) := .mine rl1.zn.ff hp
        have hu : L.length = (uniqK ks).length := by
          have q := ((List.perm_ext_iff_of_nodup nd (uniqK_nodup ks)).mpr fun k => by rw [hm, uniqK_mem]).length_eq
          rwa [List.length_map] at q
        rw [hu]
        exact k _ F1 _ (g1.trans (.of gr)) (rl1.gr gr) (.int _)
      · cases e6
    · cases e6
  | _ => cases e6
end DL

/-! DL, part ob: an object of the class Table: its attributes, its hours. -/
namespace DL
open PySem PySem.Spec PyProof.Rows L2
def digD (d : Nat) : PyData := if d = 0 then .none else .int ((d : Int) - 1)
def decH : Nat → Nat → List Nat
  | 0, _ => []
  | f + 1, n => if n ≤ 1 then [] else n % 32 :: decH f (n / 32)
def encH : List Nat → Nat
  | [] => 1
  | d :: r => d + 32 * encH r
theorem hoursV_dec : ∀ f n : Nat, hoursV f n = (decH f n).map digV
  | 0, _ => rfl
  | f + 1, n => by
    unfold hoursV decH
    by_cases h : n ≤ 1
    · rw [if_pos h, if_pos h]
      rfl
    · rw [if_neg h, if_neg h, List.map_cons, hoursV_dec f (n / 32)]
theorem encH_pos : ∀ ds : List Nat, 1 ≤ encH ds
  | [] => Nat.le_refl _
  | d :: r => by
    have := encH_pos r
    unfold encH
    omega
theorem decH_enc : ∀ (ds : List Nat) (f : Nat), ds.length ≤ f → (∀ d ∈ ds, d < 32) → decH f (encH ds) = ds
  | [], 0, _, _ => rfl
  | [], f + 1, _, _ => rfl
  | d :: r, 0, h, _ => by
    rw [List.length_cons] at h
    omega
  | d :: r, f + 1, h, hd => by
    rw [List.length_cons] at h
    have hp := encH_pos r
    have h0 := hd d List.mem_cons_self
    have ih := decH_enc r f (by omega) fun x hx => hd x (List.mem_cons_of_mem _ hx)
    unfold encH decH
    rw [if_neg (by omega)]
    have e1 : (d + 32 * encH r) % 32 = d := by omega
    have e2 : (d + 32 * encH r) / 32 = encH r := by omega
    rw [e1, e2, ih]
theorem decH_len : ∀ f n : Nat, (decH f n).length ≤ f
  | 0, _ => Nat.le_refl _
  | f + 1, n => by
    unfold decH
    split
    · exact Nat.zero_le _
    · have := decH_len f (n / 32)
      rw [List.length_cons]
      omega
theorem decH_lt : ∀ (f n : Nat), ∀ d ∈ decH f n, d < 32
  | 0, _, d, h => nomatch h
  | f + 1, n, d, h => by
    unfold decH at h
    split at h
    · cases h
    · rcases List.mem_cons.mp h with rfl | h
      · omega
      · exact decH_lt f _ d h
def hoursD (n : Nat) : List PyData := (decH 64 n).map digD
section
variable {K : PySem.W.Frag} {F B H : Hp} {W : Option Wl} {σ : L2.St} {env : DL.Env} {n i : Nat}
theorem dig_rp (d : Nat) : Rp K F (digV d) (digD d) := by
  unfold digV digD
  split
  · exact .non
  · exact .int _
theorem digs_rp : ∀ ds : List Nat, RpAll K F (ds.map digV) (ds.map digD)
  | [] => .nil
  | d :: r => .cons (dig_rp d) (digs_rp r)
theorem hours_rp : RpAll K F (hoursV 64 n) (hoursD n) := by
  rw [hoursV_dec]
  exact digs_rp _
/-- what the class must have -/
structure TabC (K : PySem.W.Frag) : Prop where
  cls : Cls K (clsK K)
  nl : NoAttr K (clsK K) "lessons"
  nm : NoAttr K (clsK K) "many"
  nh : NoAttr K (clsK K) "hours"
theorem ob_at {ls : PyData} {many : Int} (rl : Rl K F B W σ H env n) (hw : getW env i = some (.obj ls many)) :
    ∃ h o dx vl, σ[i]? = some (some (.ref o)) ∧ W = some (.tb K h o dx vl ls many) ∧ H o = some (.ins (clsK K) dx (fsT vl many h)) ∧ Rp K F vl ls ∧ H h = some (.lst (hoursV 64 n)) := by
  obtain ⟨v, h1, w, rfl, ht, rfl, tk⟩ := rl.sl i _ (getW_some hw)
  cases w with
  | dr a l ws t => cases ht
  | tab T => cases ht
  | tb K0 h o dx vl ls' many' =>
    cases ht
    obtain rfl : K0 = K := tk
    obtain ⟨q1, ⟨q2, q3⟩, q4⟩ := id rl.wo
    exact ⟨h, o, dx, vl, h1, rfl, rl.zn.ff _ _ q2, q3, q1⟩
theorem ob_same {h o dx : Addr} {vl : V} {ls : PyData} {many : Int} {H' : Hp} {n' : Nat} (rl : Rl K F B (some (.tb K h o dx vl ls many)) σ H' env n') : H' o = some (.ins (clsK K) dx (fsT vl many h)) ∧ Rp K F vl ls ∧ H' h = some (.lst (hoursV 64 n')) := by
  obtain ⟨q1, ⟨q2, q3⟩, q4⟩ := id rl.wo
  exact ⟨rl.zn.ff _ _ q2, q3, q1⟩
end
section
variable {X : Cx} {e : Expr} {st : Stmt} {i : Nat} {m mk me : DM}
def dLes (i : Nat) : DM := fun env => lift (match getW env i with
  | some (.obj ls _) => some ls
  | _ => none)
theorem de_les (c : TabC X.K) (h : PE X e (tFld X.K (tVar i) "lessons")) : DE X e (dLes i) := h.imp fun σ H Q ⟨F, B, W, env, n, d, n', rl, e, k⟩ => by
  obtain ⟨e1, rfl⟩ := lift_some e
  split at e1
  · rename_i ls many hw
    cases e1
    obtain ⟨h, o, dx, vl, h1, rfl, h2, h3, h4⟩ := ob_at rl hw
    exact ⟨_, h1, o, _, dx, _, vl, rfl, h2, c.cls, c.nl, rfl, k vl F H .refl rl h3⟩
  · cases e1
def dMany (i : Nat) : DM := fun env => lift (match getW env i with
  | some (.obj _ many) => some (.int many)
  | _ => none)
theorem de_many (c : TabC X.K) (h : PE X e (tFld X.K (tVar i) "many")) : DE X e (dMany i) := h.imp fun σ H Q ⟨F, B, W, env, n, d, n', rl, e, k⟩ => by
  obtain ⟨e1, rfl⟩ := lift_some e
  split at e1
  · rename_i ls many hw
    cases e1
    obtain ⟨h, o, dx, vl, h1, rfl, h2, h3, h4⟩ := ob_at rl hw
    exact ⟨_, h1, o, _, dx, _, _, rfl, h2, c.cls, c.nm, rfl, k _ F H .refl rl (.int _)⟩
  · cases e1
/-- self.hours[k] -/
def dHr (i : Nat) (m : DM) : DM := fun env => bnd (m env) fun d n1 => match getW env i, d with
  | some (.obj _ _), .int j => (match atI (hoursD n1) j with
    | some v => some (v, n1)
    | none => none)
  | _, _ => none
theorem de_hr (c : TabC X.K) (h : PE X e (tOp (rIxL X.K) (tFld X.K (tVar i) "hours") (rdE X.K m))) : DE X e (dHr i m) := h.imp fun σ H Q ⟨F, B, W, env, n, d, n', rl, e, k⟩ => by
  obtain ⟨d1, n1, e1, e⟩ := bnd_some e
  split at e
  · rename_i ls many j hw
    split at e
    · rename_i v hv
      cases e
      obtain ⟨h, o, dx, vl, h1, rfl, h2, h3, h4⟩ := ob_at rl hw
      refine ⟨_, h1, o, _, dx, _, .ref h, rfl, h2, c.cls, c.nh, rfl, F, B, _, env, n, _, _, rl, e1, fun u F1 H1 g rl1 p => ?_⟩
      obtain ⟨_, _, q⟩ := ob_same rl1
      obtain ⟨w, hw1, hw2⟩ := atI_rp (hours_rp (K := X.K) (F := F1) (n := n')) hv
      exact ⟨h, _, j, w, rfl, p.int_inv, .of q, hw1, k w F1 H1 g rl1 hw2⟩
    · cases e
  · cases e
/-- self.hours[k] = e -/
def undig : PyData → Option Nat
  | .none => some 0
  | .int v => if 0 ≤ v ∧ v < 31 then some (v.toNat + 1) else none
  | _ => none
theorem undig_rp {K : PySem.W.Frag} {F : Hp} {d : PyData} {g : Nat} {v : V} (h : undig d = some g) (r : Rp K F v d) : v = digV g ∧ g < 32 := by
  unfold undig at h
  split at h
  · cases h
    exact ⟨r.non_inv, by decide⟩
  · rename_i w
    split at h
    · rename_i hw
      cases h
      refine ⟨?_, by omega⟩
      rw [r.int_inv]
      unfold digV
      rw [if_neg (by omega)]
      congr 1
      omega
    · cases h
  · cases h
def sHr (i : Nat) (mk me : DM) : SM := fun env => bnd (me env) fun d => bnd (mk env) fun j n1 => match getW env i, j, undig d with
  | some (.obj _ _), .int j, some g => (match ixN (decH 64 n1).length j with
    | some k => some (.nx env, encH ((decH 64 n1).set k g))
    | none => none)
  | _, _, _ => none
theorem Rl.updHr {K : PySem.W.Frag} {F B H : Hp} {σ : L2.St} {env : DL.Env} {n n' : Nat} {h o dx : Addr} {vl : V} {ls : PyData} {many : Int} (rl : Rl K F B (some (.tb K h o dx vl ls many)) σ H env n) :
    Rl K F B (some (.tb K h o dx vl ls many)) σ (upd H h (.lst (hoursV 64 n'))) env n' := by
  obtain ⟨q1, q2, q3⟩ := id rl.wo
  obtain ⟨q4, q5⟩ := q3 h rfl
  refine ⟨⟨same_mut rl.zn.ff q4, same_mut rl.zn.bb q5, rl.zn.dj⟩, ⟨upd_same, q2, q3⟩, fun j e he => ?_, rl.ap, rl.le⟩
  obtain ⟨u, h3, h4⟩ := rl.sl j e he
  refine ⟨u, h3, ?_⟩
  cases e with
  | val d => exact h4
  | own es =>
    obtain ⟨a, xs, rfl, z1, z2⟩ := h4
    have hn : a ≠ h := fun z => z2.2.2.2 _ rfl z.symm
    exact ⟨a, xs, rfl, by rw [upd_ne hn]; exact z1, z2⟩
  | dct kvs =>
    obtain ⟨a, rfl, z3, z4, z5⟩ := h4
    refine ⟨a, rfl, z3, z4, ?_⟩
    rw [upd_ne (show a ≠ h from fun z => z4.2 _ rfl z.symm)]
    exact z5
  | wdr ws => exact h4
  | scr ns => exact h4
  | tabv d => exact h4
theorem ds_hr (c : TabC X.K) (h : PS X st (tAsg (rdE X.K me) (gSub (tFld X.K (tVar i) "hours") (rdE X.K mk) rSetL))) : DS X st (sHr i mk me) := h.imp fun D σ H ⟨F, B, W, env, n, r, n', rl, e, k⟩ => by
  obtain ⟨d, n1, e1, e⟩ := bnd_some e
  obtain ⟨j, n2, e2, e⟩ := bnd_some e
  split at e
  · rename_i ls many j g hw hg
    split at e
    · rename_i k' hk
      cases e
      refine ⟨F, B, W, env, n, d, n1, rl, e1, fun v F1 H1 g1 rl1 p => ?_⟩
      obtain ⟨h, o, dx, vl, h1, rfl, h2, h3, h4⟩ := ob_at rl1 hw
      refine ⟨_, h1, o, _, dx, _, .ref h, rfl, h2, c.cls, c.nh, rfl, F1, B, _, env, n1, _, _, rl1, e2, fun u F2 H2 g2 rl2 p2 => ?_⟩
      obtain ⟨_, _, q⟩ := ob_same rl2
      obtain ⟨rfl, gl⟩ := undig_rp hg p
      refine ⟨h, _, j, k', rfl, p2.int_inv, q, by rw [hoursV_dec, List.length_map]; exact hk, ?_⟩
      have es : hoursV 64 (encH ((decH 64 n2).set k' g)) = (hoursV 64 n2).set k' (digV g) := by
        rw [hoursV_dec, hoursV_dec, decH_enc _ 64 (by rw [List.length_set]; exact decH_len _ _) (fun x hx => by
          rcases List.mem_or_eq_of_mem_set hx with hx | rfl
          · exact decH_lt _ _ x hx
          · exact gl), List.map_set]
      rw [← es]
      exact k σ F2 _ (g1.f.trans g2.f) rl2.updHr
    · cases e
  · cases e
/-- tuple(made.hours) -/
def dHrT (i : Nat) : DM := fun env n => match getW env i with
  | some (.obj _ _) => some (.tuple (hoursD n), n)
  | _ => none
theorem de_hrT (c : TabC X.K) (h : PE X e (tCB (fun xs H Q => ∃ p ys, xs = [.ref p] ∧ ((SqL X.K H p ys ∧ ∀ l, H l = none → Q (.ref l) (upd H l (.tup ys))) ∨ (SqT X.K H p ys ∧ Q (.ref p) H))) (tCons (tFld X.K (tVar i) "hours") tNil))) : DE X e (dHrT i) := h.imp fun σ H Q ⟨F, B, W, env, n, d, n', rl, e, k⟩ => by
  unfold dHrT at e
  split at e
  · rename_i ls many hw
    cases e
    obtain ⟨h, o, dx, vl, h1, rfl, h2, h3, h4⟩ := ob_at rl hw
    refine ⟨_, h1, o, _, dx, _, .ref h, rfl, h2, c.cls, c.nh, rfl, h, _, rfl, .inl ⟨.of h4, fun l hl => ?_⟩⟩
    have gr : Gr F H (upd F l (.tup (hoursV 64 n))) (upd H l (.tup (hoursV 64 n))) := .new rl.zn.ff hl
    exact k _ _ _ (.of gr) (rl.gr gr) (.tup (.inl (.inl upd_same)) hours_rp)
  · cases e
end
end DL
/-! ### count, index -/
namespace L2
open PySem PySem.Spec PyProof.Rows
section
variable {X : Cx}
def rCountL (K : PySem.W.Frag) : V → List V → Hp → VK → Prop := fun x xs H Q => ∃ (a : Addr) (y : V) (d : PyData) (ds : List PyData), x = V.ref a ∧ xs = [y] ∧ Dp K H (V.ref a) (.list ds) ∧ Dp K H y d ∧
  SeqAt.shaped (.list ds) = true ∧ SeqAt.shaped d = true ∧ Q (.int ((ds.countP fun z => PyData.eqv z d : Nat) : Int)) H
theorem mt_countL (hu : X.A.units + 65 < cLine) : MtR X "list.count" (rCountL X.K) := by
  intro pins s σ H x xs v us Q I rx rxs h
  obtain ⟨a, y, d, ds, rfl, rfl, hl, hy, sl, sd, q⟩ := h
  cases rx
  cases rxs with
  | cons ry rt =>
    rename_i uy ut
    cases rt
    obtain ⟨bs, r1⟩ := Dp.reads I d y uy hy ry
    have hroom : X.A.units + 1 + min (PyData.depthAll ds) d.depth < cLine := room_in_shaped sd hu
    cases hl with
    | lst hs ha =>
      obtain ⟨its, rv, pl, hlen⟩ := I.list hs
      obtain ⟨as, h4⟩ := Dp.readsAll I ds _ its ha rv
      have hxs : PyData.canLayAll0 ds = true := SeqAt.canLay_of_shaped sl
      exact SeqAt.count_list_data pl.isList (show ReadsAll s.heap its.toArray.toList ds as from h4) r1 (PyData.plainAll_of_canLay0 ds hxs) (PyData.plain_of_canLay0 d (SeqAt.canLay_of_shaped sd)) hroom ⟨.int _, H, I.tok _, ⟨_, rfl⟩, q⟩
end
end L2
namespace DL
open PySem PySem.Spec PyProof.Rows L2
def cntD (ds : List PyData) (d : PyData) : Option PyData := if (SeqAt.shaped (.list ds) && SeqAt.shaped d) = true then some (.int ((ds.countP fun z => PyData.eqv z d : Nat) : Int)) else none
section
variable {X : Cx} {e : Expr} {st : Stmt} {i : Nat} {m a : DM}
/-- self.hours.count(e) -/
def dHrCnt (i : Nat) (m : DM) : DM := fun env => bnd (m env) fun d n1 => match getW env i with
  | some (.obj _ _) => (match cntD (hoursD n1) d with
    | some v => some (v, n1)
    | none => none)
  | _ => none
theorem de_hrCnt (c : TabC X.K) (h : PE X e (tBM X.K "list" (rCountL X.K) (tFld X.K (tVar i) "hours") (tCons (rdE X.K m) tNil))) : DE X e (dHrCnt i m) := h.imp fun σ H Q ⟨F, B, W, env, n, d, n', rl, e, k⟩ => by
  obtain ⟨d1, n1, e1, e⟩ := bnd_some e
  split at e
  · rename_i ls many hw
    split at e
    · rename_i v hv
      cases e
      unfold cntD at hv
      split at hv
      · rename_i hs
        cases hv
        simp only [Bool.and_eq_true] at hs
        obtain ⟨h, o, dx, vl, h1, rfl, h2, h3, h4⟩ := ob_at rl hw
        refine ⟨_, h1, o, _, dx, _, .ref h, rfl, h2, c.cls, c.nh, rfl, .inl ⟨rfl, _, .of h4⟩, F, B, _, env, n, _, _, rl, e1, fun u F1 H1 g rl1 p => ?_⟩
        obtain ⟨_, _, q⟩ := ob_same rl1
        have r : Rp X.K H1 (.ref h) (.list (hoursD n')) := .lst q hours_rp
        exact ⟨h, u, d1, _, rfl, rfl, r.dp (SeqAt.canLay_of_shaped hs.1), (p.mono rl1.zn.ff).dp (SeqAt.canLay_of_shaped hs.2), hs.1, hs.2, k _ F1 H1 g rl1 (.int _)⟩
      · cases hv
    · cases e
  · cases e
/-- xs.count(e), a list -/
def dCnt (a m : DM) : DM := fun env => bnd (a env) fun x => bnd (m env) fun d => lift (match x with
  | .list ds => cntD ds d
  | _ => none)
theorem de_cnt (h : PE X e (tBM X.K "list" (rCountL X.K) (rdE X.K a) (tCons (rdE X.K m) tNil))) : DE X e (dCnt a m) := h.imp fun σ H Q ⟨F, B, W, env, n, d, n', rl, e, k⟩ => by
  obtain ⟨x, n0, e0, e⟩ := bnd_some e
  obtain ⟨d1, n1, e1, e⟩ := bnd_some e
  obtain ⟨e2, rfl⟩ := lift_some e
  split at e2
  · rename_i ds
    unfold cntD at e2
    split at e2
    · rename_i hs
      cases e2
      simp only [Bool.and_eq_true] at hs
      refine ⟨F, B, W, env, n, _, _, rl, e0, fun v F0 H0 g0 rl0 p0 => ?_⟩
      obtain ⟨b, xs, rfl, hb, rb⟩ := p0.lst_inv
      refine ⟨.inl ⟨rfl, _, .of (rl0.zn.ff _ _ hb)⟩, F0, B, W, env, n0, _, _, rl0, e1, fun u F1 H1 g rl1 p => ?_⟩
      exact ⟨b, u, d1, _, rfl, rfl, ((p0.mono g.f).mono rl1.zn.ff).dp (SeqAt.canLay_of_shaped hs.1), (p.mono rl1.zn.ff).dp (SeqAt.canLay_of_shaped hs.2), hs.1, hs.2, k _ F1 H1 (g0.trans g) rl1 (.int _)⟩
    · cases e2
  · cases e2
/-- xs.index(e), a list -/
def dIdx (a m : DM) : DM := fun env => bnd (a env) fun x => bnd (m env) fun d => lift (match x with
  | .list ds => if (SeqAt.shaped (.list ds) && SeqAt.shaped d) = true then (match ds.findIdx? fun z => PyData.eqv z d with
    | some j => some (.int (j : Int))
    | none => none) else none
  | _ => none)
theorem de_idx (h : PE X e (tBM X.K "list" (rIndexD X.K) (rdE X.K a) (tCons (rdE X.K m) tNil))) : DE X e (dIdx a m) := h.imp fun σ H Q ⟨F, B, W, env, n, d, n', rl, e, k⟩ => by
  obtain ⟨x, n0, e0, e⟩ := bnd_some e
  obtain ⟨d1, n1, e1, e⟩ := bnd_some e
  obtain ⟨e2, rfl⟩ := lift_some e
  split at e2
  · rename_i ds
    split at e2
    · rename_i hs
      split at e2
      · rename_i j hj
        cases e2
        simp only [Bool.and_eq_true] at hs
        obtain ⟨j1, j2, j3⟩ := List.findIdx?_eq_some_iff_getElem.mp hj
        refine ⟨F, B, W, env, n, _, _, rl, e0, fun v F0 H0 g0 rl0 p0 => ?_⟩
        obtain ⟨b, xs, rfl, hb, rb⟩ := p0.lst_inv
        refine ⟨.inl ⟨rfl, _, .of (rl0.zn.ff _ _ hb)⟩, F0, B, W, env, n0, _, _, rl0, e1, fun u F1 H1 g rl1 p => ?_⟩
        refine ⟨b, u, d1, _, j, _, rfl, rfl, ((p0.mono g.f).mono rl1.zn.ff).dp (SeqAt.canLay_of_shaped hs.1), (p.mono rl1.zn.ff).dp (SeqAt.canLay_of_shaped hs.2), hs.1, hs.2, List.getElem?_eq_getElem j1, j2, fun mm z' hm hz => ?_, k _ F1 H1 (g0.trans g) rl1 (.int _)⟩
        have hl := (List.getElem?_eq_some_iff.mp hz).1
        rw [List.getElem?_eq_getElem hl] at hz
        cases hz
        simpa using j3 mm hm
      · cases e2
    · cases e2
  · cases e2
end
end DL

/-! DL, part oc: the object's methods; its making. -/
namespace DL
open PySem PySem.Spec PyProof.Rows L2
/-! ### methods -/
def Met (P : Program) (w : World) (K : PySem.W.Frag) (mg : Str → Option Value) (base : Heap) (k : Nat) (m : Str) (sp : Sp) : Prop :=
  ∃ (f : Addr) (fd : FuncData) (ps : List Str), FnOk P w K mg base CX0 k f fd ps sp ∧ L2.Meth K (clsK K) m f ∧ Binds K fd ps []
section
variable {X : Cx} {k j : Nat} {m : Str} {sp : Sp} {apos pos : Pos} {o e : Expr} {es : List Expr} {ta : TE} {t : TA}
theorem pe_met {pl : Sem Bool} (c : TabC X.K) (M : Met X.prog X.w X.K X.mg X.base k m sp) (hr : Room j X.A) (hk : k ≤ j) (ho : PE X o ta) (ha : PA X (e :: es) t)
    (hst : starEach (e :: es) X.env = (false, eval e X.env) :: starEach es X.env := by rfl) (hpl : ((backTo pos (starEach es X.env)).any fun x => x.1) = false := by rfl)
    (ht : eval (.Call (.Attribute o m apos) (e :: es) [] pos) X.env = (do
      let ov ← eval o X.env
      standAt apos.atName
      let (f, first) ← holding [ov] (getMethod ov m pl)
      callWith pos f first (backTo pos (starEach (e :: es) X.env)) (backToKw pos (keywordEach [] X.env))) := by rfl) :
    PE X (.Call (.Attribute o m apos) (e :: es) [] pos) (tMeth (clsK X.K) m sp [] E0 ta t) := by
  obtain ⟨f, fd, ps, h1, h2, h3⟩ := M
  exact pe_meth (pl := pl) ho c.cls h2 h1 (hr.mono hk) h3 .nil pass0 ha hst hpl ht
theorem pe_met0 {pl : Sem Bool} (c : TabC X.K) (M : Met X.prog X.w X.K X.mg X.base k m sp) (hr : Room j X.A) (hk : k ≤ j) (ho : PE X o ta)
    (ht : eval (.Call (.Attribute o m apos) [] [] pos) X.env = (do
      let ov ← eval o X.env
      standAt apos.atName
      let (f, first) ← holding [ov] (getMethod ov m pl)
      callWith pos f first (backTo pos (starEach [] X.env)) (backToKw pos (keywordEach [] X.env))) := by rfl) :
    PE X (.Call (.Attribute o m apos) [] [] pos) (tMeth (clsK X.K) m sp [] E0 ta tNil) := by
  obtain ⟨f, fd, ps, h1, h2, h3⟩ := M
  exact pe_meth0 (pl := pl) ho c.cls h2 h1 (hr.mono hk) h3 .nil pass0 ht
end
def dCallM (g : Tag → List PyData → OM PyData) (i : Nat) (m : AM) : DM := fun env => bnd (m env) fun ds => match getW env i with
  | some (.obj ls many) => g (.obj ls many) ds
  | _ => fail
theorem rd_callM {K : PySem.W.Frag} {i k : Nat} {mm : Str} {m : AM} {g : Tag → List PyData → OM PyData} {E : XK} (nm : ∀ vl many h, (fsT vl many h).lookup mm = none) (hk : ∀ env n ds n', m env n = some (ds, n') → ds.length = k) {σ : L2.St} {H : Hp} {Q : VK}
    (z : rdE K (dCallM g i m) σ H Q) : tMeth (clsK K) mm (SpW K k g) [] E (tVar i) (rdA K m) σ H Q := by
  obtain ⟨F, B, W, env, n, d, n', rl, e, kk⟩ := z
  obtain ⟨ds, n1, e1, e⟩ := bnd_some e
  cases hw : getW env i with
  | none =>
    simp only [hw, fail] at e
    cases e
  | some t =>
    cases t with
    | obj ls many =>
      simp only [hw] at e
      have e2 : dCallW g i m env n = some (d, n') := by
        unfold dCallW bnd
        simp only [e1, hw]
        exact e
      obtain ⟨v, hv, rest⟩ := rd_callW (K := K) (E := E) hk ⟨F, B, W, env, n, d, n', rl, e2, kk⟩
      obtain ⟨h, o, dx, vl, h1, rfl, h2, h3, h4⟩ := ob_at rl hw
      rw [h1] at hv
      cases hv
      exact ⟨_, h1, o, dx, _, rfl, h2, nm _ _ _, rest⟩
    | draws ws =>
      simp only [hw, fail] at e
      cases e
    | tabt =>
      simp only [hw, fail] at e
      cases e
theorem de_callM {X : Cx} {e : Expr} {i k : Nat} {mm : Str} {m : AM} {g : Tag → List PyData → OM PyData} {E : XK} (h : PE X e (tMeth (clsK X.K) mm (SpW X.K k g) [] E (tVar i) (rdA X.K m))) (hk : ∀ env n ds n', m env n = some (ds, n') → ds.length = k)
    (nm : ∀ vl many h, (fsT vl many h).lookup mm = none := by intros; rfl) : DE X e (dCallM g i m) := h.imp fun _ _ _ z => rd_callM nm hk z
theorem de_callM0 {X : Cx} {e : Expr} {i : Nat} {mm : Str} {g : Tag → List PyData → OM PyData} {E : XK} (h : PE X e (tMeth (clsK X.K) mm (SpW X.K 0 g) [] E (tVar i) tNil))
    (nm : ∀ vl many h, (fsT vl many h).lookup mm = none := by intros; rfl) : DE X e (dCallM g i aNil) := h.imp fun σ H Q z => by
  obtain ⟨v, hv, a, dx, fs, e1, e2, e3, F, B, W, env, n, ds, n', rl, ea, q⟩ := rd_callM (E := E) nm (fun _ _ _ _ h => aNil_len h) z
  obtain ⟨rfl, rfl⟩ := ret_some ea
  exact ⟨v, hv, a, dx, fs, e1, e2, e3, q [] F H .refl rl .nil⟩
/-! ### its making -/
def SpI (K : PySem.W.Frag) : Sp := fun vs H Q _ => ∃ (x dx : Addr) (vl : V) (many : Int) (F : Hp) (ls : List PyData), vs = [.ref x, vl, .int many] ∧ H x = some (.ins (clsK K) dx []) ∧ Same F H ∧ F x = none ∧ Rp K F vl (.tuple ls) ∧ ls.length ≤ 60 ∧
  ∀ (h : Addr) (H' : Hp), (∀ b o, H b = some o → b ≠ x → H' b = some o) → H' x = some (.ins (clsK K) dx (fsT vl many h)) → H h = none → h ≠ x → H' h = some (.lst (List.replicate ls.length .non)) → Q .non H'
def tInit (K : PySem.W.Frag) : TS := tSeq (sFld K (tVar 0) (tVar 1) "lessons") (tSeq (sFld K (tVar 0) (tVar 2) "many") (sFld K (tVar 0) (tOp rRep (tLst (tCons (tC .non) tNil)) (tCB (fun xs H Q => ∃ p ys, xs = [.ref p] ∧ (SqL K H p ys ∨ SqT K H p ys) ∧ Q (.int ys.length) H) (tCons (tVar 1) tNil))) "hours"))
theorem rep_non (k : Nat) : (List.replicate k [V.non]).flatten = List.replicate k V.non := by
  induction k with
  | zero => rfl
  | succ k ih => rw [List.replicate_succ, List.flatten_cons, ih]; rfl
section
variable {P : Program} {w : World} {K : PySem.W.Frag} {mg : Str → Option Value} {base : Heap}
theorem init_ok {qual : Str} {st : Stmt} {f : Addr} {fd : FuncData} (c : TabC K) (F : Fun K "__init__" qual st f fd) (S : FnScope ["self", "lessons", "many"] ["self", "lessons", "many"] (defScope st))
    (h : ∀ (cdv : Value) (A : Around) (outer : List PySem.Env) (s : Shared) (H : Hp) (E : XK), Room 0 (A.deeper (envOfC qual (defScope st) s.heap.objs.size f cdv)) → PSs (cxOf CX0 P w K mg base ["self", "lessons", "many"] qual (defScope st) f cdv A outer s H E).nox (defBody st) (tInit K)) :
    FnOk P w K mg base CX0 1 f fd ["self", "lessons", "many"] (SpI K) := by
  refine F.ok S (fun vs H Q E ⟨x, dx, vl, many, F, ls, e, _⟩ => by rw [e]; rfl) fun cdv A outer s H vs Q E hr ⟨x, dx, vl, many, F0, ls, ev, hx, sm, fx, rp, hl, kk⟩ => ?_
  refine ⟨tInit K, h cdv A outer s H E hr, ?_⟩
  subst ev
  have s0 : (L2.start ["self", "lessons", "many"] [V.ref x, vl, V.int many])[0]? = some (some (V.ref x)) := rfl
  have s1 : (L2.start ["self", "lessons", "many"] [V.ref x, vl, V.int many])[1]? = some (some vl) := rfl
  have s2 : (L2.start ["self", "lessons", "many"] [V.ref x, vl, V.int many])[2]? = some (some (V.int many)) := rfl
  generalize L2.start ["self", "lessons", "many"] [V.ref x, vl, V.int many] = σ at *
  refine ⟨_, s1, _, s0, x, _, dx, [], rfl, hx, c.cls, c.nl, by decide, ?_⟩
  refine ⟨_, s2, _, s0, x, _, dx, [("lessons", vl)], rfl, upd_same, c.cls, c.nm, by show 1 < 1000; decide, ?_⟩
  -- [None] * len(lessons)
  obtain ⟨p, xs, rfl, hs, hr⟩ := rp.tup_inv
  have keep0 : ∀ (u v : HO) b o, F0 b = some o → upd (upd H x u) x v b = some o := fun u v b o e => by
    have hn : b ≠ x := fun z => by
      rw [z, fx] at e
      cases e
    rw [upd_ne hn, upd_ne hn]
    exact sm b o e
  refine ⟨by show 1 ≤ sizeLine; decide, fun q hq => ?_⟩
  have hqx : q ≠ x := fun z => by
    rw [z, upd_same] at hq
    cases hq
  have hH : H q = none := by
    rw [upd_ne hqx, upd_ne hqx] at hq
    exact hq
  refine ⟨_, s1, p, xs, rfl, .inr (sqt_mono (H := F0) (fun b o e => same_new hq _ _ (keep0 _ _ b o e)) hs), ?_⟩
  have hlen : xs.length = ls.length := by rw [hr.len]
  refine ⟨q, (xs.length : Int), _, rfl, rfl, upd_same, by omega, by omega, by show 1 * _ ≤ _; rw [Int.toNat_natCast, hlen, sizeLine_eq]; omega, fun h hh => ?_⟩
  rw [rep_non, Int.toNat_natCast, hlen]
  have hhq : h ≠ q := fun z => by
    rw [z, upd_same] at hh
    cases hh
  rw [upd_ne hhq] at hh
  have hhx : h ≠ x := fun z => by
    rw [z, upd_same] at hh
    cases hh
  have hHh : H h = none := by
    rw [upd_ne hhx, upd_ne hhx] at hh
    exact hh
  refine ⟨_, s0, x, _, dx, [("lessons", .ref p), ("many", .int many)], rfl, ?_, c.cls, c.nh, by show 2 < 1000; decide, ?_⟩
  · rw [upd_ne (Ne.symm hhx), upd_ne (Ne.symm hqx)]
    exact upd_same
  · refine kk h _ (fun b o e hb => ?_) upd_same hHh hhx ?_
    · rw [upd_ne hb, upd_ne (ne_of_none e hHh), upd_ne (ne_of_none e hH), upd_ne hb, upd_ne hb]
      exact e
    · rw [upd_ne hhx, upd_same]
end
end DL

/-! DL, part od: made = Table(..), and what is done with it. -/
namespace DL
open PySem PySem.Spec PyProof.Rows L2
def clean (env : DL.Env) : DL.Env := env.map fun e => match e with
  | some e => if e.mut = true then none else some e
  | none => none
theorem clean_some {env : DL.Env} {j : Nat} {e : En} (h : (clean env)[j]? = some (some e)) : env[j]? = some (some e) ∧ e.mut = false := by
  unfold clean at h
  rw [List.getElem?_map] at h
  cases hj : env[j]? with
  | none =>
    rw [hj] at h
    cases h
  | some u =>
    rw [hj] at h
    cases u with
    | none =>
      simp at h
    | some e2 =>
      simp only [Option.map_some, Option.some.injEq] at h
      by_cases hm : e2.mut = true
      · rw [if_pos hm] at h
        cases h
      · rw [if_neg hm] at h
        cases h
        exact ⟨rfl, by simpa using hm⟩
theorem hours0 {k : Nat} (h : k ≤ 60) : hoursV 64 (encH (List.replicate k 0)) = List.replicate k V.non := by
  rw [hoursV_dec, decH_enc _ 64 (by rw [List.length_replicate]; omega) (fun d hd => by
    rw [List.eq_of_mem_replicate hd]
    decide), List.map_replicate]
  rfl
theorem rd_new {K : PySem.W.Frag} {i : Nat} {m : AM} {σ : L2.St} {H F B : Hp} {W : Option Wl} {env : DL.Env} {n n1 : Nat} {ls : List PyData} {many : Int} {D : L2.St → Hp → Prop} {E : XK} (rl : Rl K F B W σ H env n) (e1 : m env n = some ([.tuple ls, .int many], n1)) (hl : ls.length ≤ 60)
    (kk : ∀ F' B' W' σ' H', Same F F' → Rl K F' B' W' σ' H' ((clean env).set i (some (.wdr (.obj (.tuple ls) many)))) (encH (List.replicate ls.length 0)) → (∀ F2 H2, Same F' F2 → Zn F2 B' H2 → Zn F2 B H2 ∧ WOk F2 B H2 n1 W) → D σ' H') :
    tMake (clsK K) (SpI K) [] E (rdA K m) σ H (fun v H1 => gName i v σ H1 D) := by
  refine ⟨F, B, W, env, n, _, _, rl, e1, fun vs F1 H1 g1 rl1 r => ?_⟩
  intro x dx hx hdx hne
  cases r with
  | cons r1 r =>
  cases r with
  | cons r2 r =>
  cases r
  rename_i vl vm
  obtain rfl := r2.int_inv
  have fx : F1 x = none := same_none rl1.zn.ff hx
  have up1 : ∀ b o, H1 b = some o → upd (upd H1 dx (.own x)) x (.ins (clsK K) dx []) b = some o := fun b o e => by
    rw [upd_ne (ne_of_none e hx), upd_ne (ne_of_none e hdx)]
    exact e
  refine ⟨x, dx, vl, many, F1, ls, rfl, upd_same, fun b o e => up1 b o (rl1.zn.ff b o e), fx, r1, hl, fun h H' hk hx' hh hhx hl' => ⟨rfl, ?_⟩⟩
  have hH : H1 h = none := by
    rw [upd_ne hhx] at hh
    by_cases z : h = dx
    · rw [z, upd_same] at hh
      cases hh
    · rw [upd_ne z] at hh
      exact hh
  have keep : ∀ b o, H1 b = some o → H' b = some o := fun b o e => hk b o (up1 b o e) (ne_of_none e hx)
  have sF : Same (upd F1 x (.ins (clsK K) dx (fsT vl many h))) H' := fun b o e => by
    by_cases z : b = x
    · rw [z, upd_same] at e
      rw [z, hx', ← e]
    · rw [upd_ne z] at e
      exact keep b o (rl1.zn.ff b o e)
  have sF1 : Same F1 (upd F1 x (.ins (clsK K) dx (fsT vl many h))) := same_new fx
  have fh : upd F1 x (.ins (clsK K) dx (fsT vl many h)) h = none := by
    rw [upd_ne hhx]
    exact same_none rl1.zn.ff hH
  refine kk (upd F1 x (.ins (clsK K) dx (fsT vl many h))) (restW (fun y => h = y) (upd F1 x (.ins (clsK K) dx (fsT vl many h))) H') (some (.tb K h x dx vl (.tuple ls) many)) (σ.set i (some (.ref x))) H' (g1.f.trans sF1) ⟨zn_restW sF, ⟨?_, ⟨upd_same, r1.mono sF1⟩, fun y c => ?_⟩, fun j e he => ?_, fun a b e e' v hab h1 h2 m1 m2 => ?_, ?_⟩ ?_
  · show H' h = some (.lst (hoursV 64 (encH (List.replicate ls.length 0))))
    rw [hours0 hl]
    exact hl'
  · cases c
    exact ⟨fh, restW_in rfl⟩
  · by_cases hij : i = j
    · subst hij
      have hi := (List.getElem?_eq_some_iff.mp he).1
      rw [List.length_set] at hi
      rw [List.getElem?_set_self hi] at he
      cases he
      refine ⟨.ref x, ?_, _, rfl, rfl, rfl, rfl⟩
      rw [List.getElem?_set_self]
      unfold clean at hi
      rw [List.length_map, rl1.le] at hi
      exact hi
    · rw [List.getElem?_set_ne hij] at he
      obtain ⟨he2, hm⟩ := clean_some he
      obtain ⟨v, h1, h2⟩ := rl1.sl j e he2
      refine ⟨v, by rw [List.getElem?_set_ne hij]; exact h1, ?_⟩
      cases e with
      | val d => exact Rp.mono sF1 h2
      | scr ns =>
        obtain ⟨a, e, h⟩ := h2
        exact ⟨a, e, sF1.seq h⟩
      | tabv d => exact ⟨Rp.mono sF1 h2.1, h2.2.mono sF1⟩
      | own ds => cases hm
      | dct ds => cases hm
      | wdr t => cases hm
  · exfalso
    have only : ∀ (j : Nat) (e : En), ((clean env).set i (some (.wdr (.obj (.tuple ls) many))))[j]? = some (some e) → e.mut = true → j = i := fun j e he hm => by
      by_cases hij : i = j
      · exact hij.symm
      · rw [List.getElem?_set_ne hij] at he
        have := (clean_some he).2
        rw [this] at hm
        cases hm
    exact hab ((only a e h1 m1).trans (only b e' h2 m2).symm)
  · unfold clean
    rw [List.length_set, List.length_set, List.length_map, rl1.le]
  · intro F2 H2 s2 z2
    have k2 : ∀ b o, H1 b = some o → F1 b = none → H2 b = some o ∧ F2 b = none := fun b o e f => by
      have hb : upd F1 x (.ins (clsK K) dx (fsT vl many h)) b = none := by
        rw [upd_ne (ne_of_none e hx)]
        exact f
      have := restW_some (c := fun y => h = y) (F := upd F1 x (.ins (clsK K) dx (fsT vl many h))) (keep b o e) hb (fun z => ne_of_none e hH z.symm)
      exact ⟨z2.bb b o this, z2.dj b o this⟩
    have all2 : Same H1 H2 := fun b o e => by
      cases f : F1 b with
      | none => exact (k2 b o e f).1
      | some u =>
        have := rl1.zn.ff b u f
        rw [e] at this
        cases this
        exact z2.ff b o (s2 b o (sF1 b o f))
    refine ⟨⟨z2.ff, rl1.zn.bb.trans all2, fun a o e => (k2 a o (rl1.zn.bb a o e) (rl1.zn.dj a o e)).2⟩, ?_⟩
    have wo := rl1.wo
    cases W with
    | none => trivial
    | some w =>
      obtain ⟨q1, q2, q3⟩ := wo
      refine ⟨Wl.same q1 all2, w.mono (sF1.trans s2) q2, fun y c => ?_⟩
      obtain ⟨o, ho⟩ := Wl.there q1 c
      exact ⟨(k2 y o ho (q3 y c).1).2, (q3 y c).2⟩
def sNew (i : Nat) (m : AM) (rest : SM) : SM := fun env => bnd (m env) fun ds n1 => match ds with
  | [.tuple ls, .int many] => if ls.length ≤ 60 then (match rest ((clean env).set i (some (.wdr (.obj (.tuple ls) many)))) (encH (List.replicate ls.length 0)) with
    | some (.rt d, _) => some (.rt d, n1)
    | _ => none) else none
  | _ => none
section
variable {X : Cx} {st st1 st2 st3 : Stmt} {sts : List Stmt} {i : Nat} {m : AM} {rest : SM} {E : XK}
theorem dss_new (h : PS X st (tAsg (tMake (clsK X.K) (SpI X.K) [] E (rdA X.K m)) (gName i))) (h2 : DSs X sts rest) : DSs X (st :: sts) (sNew i m rest) := (pss_cons h h2).imp fun D σ H ⟨F, B, W, env, n, r, n', rl, e, k⟩ => by
  obtain ⟨ds, n1, e1, e⟩ := bnd_some e
  split at e
  · rename_i ls many
    split at e
    · rename_i hl
      split at e
      · rename_i d n2 hr
        cases e
        exact rd_new rl e1 hl fun F' B' W' σ' H' s1 rl1 z => ⟨F', B', W', _, _, .rt d, n2, rl1, hr, fun v F2 H2 s2 z2 _ p => by
          obtain ⟨q1, q2⟩ := z F2 H2 s2 z2
          exact k v F2 H2 (s1.trans s2) q1 q2 p⟩
      · cases e
    · cases e
  · cases e
/-! ### a return that hands back a tuple made here -/
def endN (K : PySem.W.Frag) (F B : Hp) (W : Option Wl) (n : Nat) (D : Ends) : Fl → Prop
  | .rt d => ∀ v F' H, Same F F' → Zn F' B H → WOk F' B H n W → Rp K F' v d → NoD F' v → D.rt v H
  | _ => False
def rdN (K : PySem.W.Frag) (m : SM) : TS := fun D σ H => ∃ F B W env n r n', Rl K F B W σ H env n ∧ m env n = some (r, n') ∧ endN K F B W n' D r
def rTupN (K : PySem.W.Frag) : List V → Hp → VK → Prop := fun xs H Q => ∃ p ys, xs = [.ref p] ∧ SqL K H p ys ∧ ∀ l ob, H l = none → ob.dict = none → Q (.ref l) (upd H l (.frz ob (.tup ys)))
theorem call_tupN : CallR X (.type "tuple") (rTupN X.K) := by
  intro pins s σ H xs us Q I r h
  obtain ⟨p, ys, rfl, hq, q⟩ := h
  rw [Vals.ref1 r]
  obtain ⟨its, r', pl, hz⟩ := I.list hq
  have hlen := r'.length
  refine call_tuple_list pl.isList (fun h' kp => ?_) (by simp only [List.size_toArray] <;> omega)
  have I1 : Inv X pins σ H { s with heap := h' } := I.kept (t' := s.toks) kp
  have I2 : Inv X pins σ (upd H h'.objs.size (.frz { cls := .type "tuple", data := .seq its.toArray } (.tup ys))) { s with heap := h'.push { cls := .type "tuple", data := .seq its.toArray } } :=
    I1.laid (t' := s.toks) (fun b o e => Heap.get?_push_of_some _ e) (Nat.le_refl _) ⟨Heap.get?_push_size _ rfl, hz, its, r', IsTup.new _ _⟩
  exact ⟨.ref h'.objs.size, _, I2, rfl, q _ _ (I1.hok.fresh (Nat.le_refl _)) rfl⟩
theorem ds_retN (c : TabC X.K) (h : PS X st (tRet (tCB (rTupN X.K) (tCons (tFld X.K (tVar i) "hours") tNil)))) : PS X st (rdN X.K (sRet (dHrT i))) := h.imp fun D σ H ⟨F, B, W, env, n, r, n', rl, e, k⟩ => by
  obtain ⟨d, n1, e1, e⟩ := bnd_some e
  obtain ⟨rfl, rfl⟩ := ret_some e
  unfold dHrT at e1
  split at e1
  · rename_i ls many hw
    cases e1
    obtain ⟨h, o, dx, vl, h1, rfl, h2, h3, h4⟩ := ob_at rl hw
    refine ⟨_, h1, o, _, dx, _, .ref h, rfl, h2, c.cls, c.nh, rfl, h, _, rfl, .of h4, fun l ob hl hd => ?_⟩
    have gr : Gr F H (upd F l (.frz ob (.tup (hoursV 64 n)))) (upd H l (.frz ob (.tup (hoursV 64 n)))) := .new rl.zn.ff hl
    have rl2 := rl.gr gr
    exact k _ _ _ gr.f rl2.zn rl2.wo (.tup (.inl (.inr ⟨ob, upd_same⟩)) hours_rp) ⟨l, ob, _, rfl, upd_same, hd⟩
  · cases e1
/-- the one, then the other: no return in the first -/
def sThen (s r : SM) : SM := fun env => bnd (s env) fun q => match q with
  | .nx e => r e
  | _ => fail
theorem dss_newN {m1 m2 m3 : SM} (h : PS X st (tAsg (tMake (clsK X.K) (SpI X.K) [] E (rdA X.K m)) (gName i))) (h1 : DS X st1 m1) (h2 : DS X st2 m2) (h3 : PS X st3 (rdN X.K m3)) :
    PSs X [st, st1, st2, st3] (rdN X.K (sNew i m (sThen m1 (sThen m2 m3)))) := (pss_cons h (pss_cons h1 (pss_cons h2 (pss_one h3)))).imp fun D σ H ⟨F, B, W, env, n, r, n', rl, e, k⟩ => by
  obtain ⟨ds, n1, e1, e⟩ := bnd_some e
  split at e
  · rename_i ls many
    split at e
    · rename_i hl
      split at e
      · rename_i d n2 hr
        cases e
        refine rd_new rl e1 hl fun F' B' W' σ' H' s1 rl1 z => ?_
        obtain ⟨r1, k1, a1, hr⟩ := bnd_some hr
        cases r1 with
        | nx env1 =>
          obtain ⟨r2, k2, a2, hr⟩ := bnd_some hr
          cases r2 with
          | nx env2 =>
            refine ⟨F', B', W', _, _, .nx env1, k1, rl1, a1, fun σ2 F2 H2 s2 rl2 => ⟨F2, B', W', env1, k1, .nx env2, k2, rl2, a2, fun σ3 F3 H3 s3 rl3 => ⟨F3, B', W', env2, k2, .rt d, n2, rl3, hr, fun v F4 H4 s4 z4 _ p nd => ?_⟩⟩⟩
            obtain ⟨q1, q2⟩ := z F4 H4 (s2.trans (s3.trans s4)) z4
            exact k v F4 H4 (s1.trans (s2.trans (s3.trans s4))) q1 q2 p nd
          | _ => cases hr
        | _ => cases hr
      · cases e
    · cases e
  · cases e
end
/-! ### a def that does so -/
def runN (body : SM) (N : Nat) : List PyData → Option PyData := fun ds => match body (startE N ds) 0 with
  | some (.rt d, _) => some d
  | _ => none
def SpN (K : PySem.W.Frag) (k : Nat) (f : List PyData → Option PyData) : Sp := fun vs H Q _ => ∃ F B ds d, Zn F B H ∧ RpAll K F vs ds ∧ ds.length = k ∧ f ds = some d ∧ ∀ v F' H', Same F F' → Zn F' B H' → Rp K F' v d → NoD F' v → Q v H'
section
variable {P : Program} {w : World} {K : PySem.W.Frag} {mg : Str → Option Value} {base : Heap}
theorem fnN_ok {x qual : Str} {st : Stmt} {f : Addr} {fd : FuncData} {N ps : List Str} {k kk nn : Nat} {m : SM} (F : Fun K x qual st f fd) (S : FnScope N ps (defScope st)) (hps : ps.length = kk) (hnn : N.length = nn)
    (h : ∀ (cdv : Value) (A : Around) (outer : List PySem.Env) (s : Shared) (H : Hp) (E : XK), Room k (A.deeper (envOfC qual (defScope st) s.heap.objs.size f cdv)) → PSs (cxOf CX0 P w K mg base N qual (defScope st) f cdv A outer s H E).nox (defBody st) (rdN K m)) :
    FnOk P w K mg base CX0 (k + 1) f fd ps (SpN K kk (runN m nn)) := by
  subst hnn
  refine F.ok S (fun vs H Q E ⟨F0, B, ds, d, z, r, hl, _⟩ => by rw [r.len, hl, hps]) fun cdv A outer s H vs Q E hr ⟨F0, B, ds, d, z, r, hl, e, q⟩ => ?_
  refine ⟨rdN K m, h cdv A outer s H E hr, ?_⟩
  unfold runN at e
  split at e
  · rename_i d2 n2 h2
    cases e
    exact ⟨F0, B, none, _, 0, _, _, .start z r, h2, fun v F' H' s z' _ p nd => q v F' H' s z' p nd⟩
  · cases e
end
theorem Rl.setT {K : PySem.W.Frag} {F B H : Hp} {W : Option Wl} {σ : L2.St} {env : DL.Env} {n : Nat} {v : V} {d : PyData} (i : Nat) (r : Rl K F B W σ H env n) (h : Rp K F v d) (nd : NoD F v) : Rl K F B W (σ.set i (some v)) H (env.set i (some (.tabv d))) n := by
  have q := r.set i h
  refine ⟨q.zn, q.wo, fun j e he => ?_, fun j k e e' u hjk h1 h2 m1 m2 => ?_, ?_⟩
  · by_cases hij : i = j
    · subst hij
      have hi := (List.getElem?_eq_some_iff.mp he).1
      rw [List.length_set] at hi
      rw [List.getElem?_set_self hi] at he
      cases he
      exact ⟨v, List.getElem?_set_self (by rw [← r.le]; exact hi), h, nd⟩
    · rw [List.getElem?_set_ne hij] at he
      exact q.sl j e (by rw [List.getElem?_set_ne hij]; exact he)
  · have back : ∀ (j : Nat) (e : En), (env.set i (some (En.tabv d)))[j]? = some (some e) → e.mut = true → (env.set i (some (En.val d)))[j]? = some (some e) := fun j e he hm => by
      by_cases hij : i = j
      · subst hij
        have hi := (List.getElem?_eq_some_iff.mp he).1
        rw [List.length_set] at hi
        rw [List.getElem?_set_self hi] at he
        cases he
        cases hm
      · rw [List.getElem?_set_ne hij] at he ⊢
        exact he
    exact q.ap j k e e' u hjk (back j e h1 m1) (back k e' h2 m2) m1 m2
  · have := q.le
    rw [List.length_set, List.length_set] at this ⊢
    exact this
/-- row = f(..) -/
def sAsgN (f : List PyData → Option PyData) (i : Nat) (m : AM) : SM := fun env => bnd (m env) fun ds => bnd (lift (f ds)) fun d => ret (.nx (env.set i (some (.tabv d))))
theorem ds_asgN {X : Cx} {st : Stmt} {m : AM} {k i : Nat} {f : List PyData → Option PyData} {E : XK} (h : PS X st (tAsg (tCall (SpN X.K k f) [] E (rdA X.K m)) (gName i))) (hk : ∀ env n ds n', m env n = some (ds, n') → ds.length = k) : DS X st (sAsgN f i m) := h.imp fun D σ H ⟨F, B, W, env, n, r, n', rl, e, kk⟩ => by
  obtain ⟨ds, n1, e1, e⟩ := bnd_some e
  obtain ⟨d, n2, e2, e4⟩ := bnd_some e
  obtain ⟨e3, rfl⟩ := lift_some e2
  obtain ⟨rfl, rfl⟩ := ret_some e4
  refine ⟨F, B, W, env, n, ds, _, rl, e1, fun vs F1 H1 g rl1 r => ?_⟩
  refine ⟨F1, rest F1 H1, ds, d, zn_rest rl1.zn.ff, ?_, hk _ _ _ _ e1, e3, fun v F' H' s z p nd => ?_⟩
  · rw [List.append_nil]
    exact r
  · have gr := gr_rest rl1.zn.ff s z
    exact kk _ F' H' (g.f.trans gr.f) ((rl1.gr gr).setT i p nd)
def getN (env : DL.Env) (i : Nat) : Option PyData := match env[i]? with
  | some (some (.tabv d)) => some d
  | _ => none
theorem getN_some {env : DL.Env} {i : Nat} {d : PyData} (h : getN env i = some d) : env[i]? = some (some (.tabv d)) := by
  unfold getN at h
  split at h
  · cases h; assumption
  · cases h
def dVarT (i : Nat) : DM := fun env => lift (getN env i)
theorem de_varT {X : Cx} {e : Expr} {i : Nat} (h : PE X e (tVar i)) : DE X e (dVarT i) := h.imp fun σ H Q ⟨F, B, W, env, n, d, n', rl, e, k⟩ => by
  obtain ⟨e1, rfl⟩ := lift_some e
  obtain ⟨v, h1, h2, _⟩ := rl.sl i _ (getN_some e1)
  exact ⟨v, h1, k v F H .refl rl h2⟩
end DL
/-! ### t.count(x), a tuple that was made here -/
namespace L2
open PySem PySem.Spec PyProof.Rows DL
def tBMT (K : PySem.W.Frag) (r : V → List V → Hp → VK → Prop) (to : TE) (t : TA) : TE := fun σ H Q => to σ H fun x H1 => (∃ a o xs, x = .ref a ∧ H1 a = some (.frz o (.tup xs)) ∧ o.dict = none) ∧ t σ H1 fun xs H2 => r x xs H2 Q
section
variable {X : Cx} {o e : Expr} {es : List Expr} {to : TE} {t : TA} {name : Str} {apos cpos : Pos} {id : String} {r : V → List V → Hp → VK → Prop}
theorem pe_bmT (pa : PlainAttrs "tuple") (slot : Slot "tuple" name id) (hty : typeOf (.builtin id) = pure (.type "method_descriptor")) (hm : MtR X id r) (ho : PE X o to) (ha : PA X (e :: es) t)
    (hbase : attributeBase o name X.env (eval o X.env) = eval o X.env := by rfl)
    (hfew : ((backTo cpos (starEach (e :: es) X.env)).all (fun x => !x.1) && (backToKw cpos (keywordEach [] X.env)).all (fun x => x.1.isSome)
      && decide ((e :: es).length + ([] : List Keyword).length + (if ([] : List Keyword).isEmpty then 0 else 1) < 30)) = true := by rfl)
    (hline : (apos.endLine == cpos.line) = true := by rfl) (hs : starEach (e :: es) X.env = (false, eval e X.env) :: starEach es X.env := by rfl) (hplain : (backTo cpos (starEach es X.env)).any (·.1) = false := by rfl) :
    PE X (.Call (.Attribute o name apos) (e :: es) [] cpos) (tBMT X.K r to t) := by
  refine ⟨fun pins s σ H Q I h => ?_⟩
  refine wpAny_Call_method_late hbase hfew hline rfl (thn (ho.run pins s σ H _ I h) fun v s1 ⟨x, H1, I1, r1, ⟨a, ob, xs, ex, ha1, hd⟩, q1⟩ => ?_)
  subst ex
  obtain rfl : v = Value.ref a := r1
  obtain ⟨e1, _, its, _, o2, e2, hc, _⟩ := I1.hok a _ ha1
  rw [e1] at e2
  cases e2
  refine ⟨"tuple", id, pa, slot, hty, ⟨ob, e1, hc⟩, fun b eb => ?_, ?_⟩
  · cases eb
    exact ⟨ob, e1, hd⟩
  have hA := ha.run cpos pins s1 σ H1 _ I1 q1
  rw [hs] at hA ⊢
  refine Calls.callWith_builtin (by show (false || (backTo cpos (starEach es X.env)).any (·.1)) = false; rw [hplain] <;> rfl) (Calls.evalArgs_plain ?_)
  exact thn hA fun us s2 ⟨vs, H2, I2, r2, q2⟩ => hm pins s2 σ H2 (.ref a) vs _ us Q I2 rfl r2 q2
def rCountT (K : PySem.W.Frag) : V → List V → Hp → VK → Prop := fun x xs H Q => ∃ (a : Addr) (y : V) (d : PyData) (ds : List PyData), x = V.ref a ∧ xs = [y] ∧ Dp K H (V.ref a) (.tuple ds) ∧ Dp K H y d ∧
  SeqAt.shaped (.tuple ds) = true ∧ SeqAt.shaped d = true ∧ Q (.int ((ds.countP fun z => PyData.eqv z d : Nat) : Int)) H
theorem mt_countT (hu : X.A.units + 65 < cLine) : MtR X "tuple.count" (rCountT X.K) := by
  intro pins s σ H x xs v us Q I rx rxs h
  obtain ⟨a, y, d, ds, rfl, rfl, hl, hy, sl, sd, q⟩ := h
  cases rx
  cases rxs with
  | cons ry rt =>
    rename_i uy ut
    cases rt
    obtain ⟨bs, r1⟩ := Dp.reads I d y uy hy ry
    have hroom : X.A.units + 1 + min (PyData.depthAll ds) d.depth < cLine := room_in_shaped sd hu
    cases hl with
    | tup hs ha =>
      obtain ⟨its, rv, pl, hlen⟩ := I.tuple hs
      obtain ⟨as, h4⟩ := Dp.readsAll I ds _ its ha rv
      have hxs : PyData.canLayAll0 ds = true := SeqAt.canLay_of_shaped sl
      exact SeqAt.count_tuple_data pl (show ReadsAll s.heap its.toArray.toList ds as from h4) r1 (PyData.plainAll_of_canLay0 ds hxs) (PyData.plain_of_canLay0 d (SeqAt.canLay_of_shaped sd)) hroom ⟨.int _, H, I.tok _, ⟨_, rfl⟩, q⟩
end
end L2
namespace DL
open PySem PySem.Spec PyProof.Rows L2
def cntTD (ds : List PyData) (d : PyData) : Option PyData := if (SeqAt.shaped (.tuple ds) && SeqAt.shaped d) = true then some (.int ((ds.countP fun z => PyData.eqv z d : Nat) : Int)) else none
def dCntT (i : Nat) (m : DM) : DM := fun env => bnd (m env) fun d => lift (match getN env i with
  | some (.tuple ds) => cntTD ds d
  | _ => none)
theorem de_cntT {X : Cx} {e : Expr} {i : Nat} {m : DM} (h : PE X e (tBMT X.K (rCountT X.K) (tVar i) (tCons (rdE X.K m) tNil))) : DE X e (dCntT i m) := h.imp fun σ H Q ⟨F, B, W, env, n, d, n', rl, e, k⟩ => by
  obtain ⟨d1, n1, e1, e⟩ := bnd_some e
  obtain ⟨e2, rfl⟩ := lift_some e
  split at e2
  · rename_i ds hd
    unfold cntTD at e2
    split at e2
    · rename_i hs
      cases e2
      simp only [Bool.and_eq_true] at hs
      obtain ⟨v, h1, h2, a, ob, xs, rfl, h3, h4⟩ := rl.sl i _ (getN_some hd)
      refine ⟨_, h1, ⟨a, ob, xs, rfl, rl.zn.ff _ _ h3, h4⟩, F, B, W, env, n, _, _, rl, e1, fun u F1 H1 g rl1 p => ?_⟩
      exact ⟨a, u, d1, ds, rfl, rfl, ((h2.mono g.f).mono rl1.zn.ff).dp (SeqAt.canLay_of_shaped hs.1), (p.mono rl1.zn.ff).dp (SeqAt.canLay_of_shaped hs.2), hs.1, hs.2, k _ F1 H1 g rl1 (.int _)⟩
    · cases e2
  · cases e2
end DL

/-! DL, part oe: more for the timetable's laws. -/
namespace DL
open PySem PySem.Spec PyProof.Rows L2 LamX
/-! ### len(set(t)), t a tuple of ints -/
def rSetTI (K : PySem.W.Frag) (w : World) : List V → Hp → VK → Prop := fun xs H Q => ∃ (l : Addr) (ns : List Int), xs = [V.ref l] ∧ SqT K H l (ns.map V.int) ∧ ns.length ≤ 4000 ∧ ∀ a c, H a = none → c ≤ ns.length → Q (.ref a) (upd H a (SetO w a (fun j => decide (j ∈ ns)) c))
theorem cr_setTI {X : Cx} (hc : X.calm = true) : CallR X (.type "set") (rSetTI X.K X.w) := by
  intro pins s σ H xs us Q I r h
  obtain ⟨l, ns, rfl, hl, hz, q⟩ := h
  rw [Vals.ref1 r]
  obtain ⟨its, rv, pl, _⟩ := I.tuple hl
  have hn : H s.heap.objs.size = none := I.hok.fresh (Nat.le_refl _)
  refine call_set_tupI ns (I.ok.hd hc) pl (by simpa using rv.ints) (by unfold scanBound; omega) fun h' tk c R hcn k => ?_
  exact ⟨.ref s.heap.objs.size, upd H s.heap.objs.size (SetO X.w s.heap.objs.size (fun j => decide (j ∈ ns)) c), I.laid (t' := tk) k (Nat.le_refl _) (setO_new R), rfl, q _ c hn hcn⟩
def lenSetTD := arg1 fun d => match d with
  | .tuple ds => match intsOf ds with
    | some ns => if ns.length ≤ 4000 then some (.int ((uniqI ns).length : Int)) else none
    | none => none
  | _ => none
theorem de_lenSetT {X : Cx} {e : Expr} {a : DM} (h : PE X e (tCB (rLenSetO X.w) (tCons (tCB (rSetTI X.K X.w) (tCons (rdL X.K a) tNil)) tNil))) : DE X e (dCallB lenSetTD (aCons a aNil)) := h.imp fun σ H Q ⟨F, B, W, env, n, ds, n', rl, e, k⟩ => by
  obtain ⟨x, n1, e1, e⟩ := bnd_some e
  obtain ⟨d, n2, e3, e4⟩ := bnd_some e1
  rw [aNil, bnd_ret] at e4
  obtain ⟨rfl, rfl⟩ := ret_some e4
  obtain ⟨e5, rfl⟩ := lift_some e
  obtain ⟨d, hx, e6⟩ := arg1_some e5
  cases hx
  refine ⟨F, B, W, env, n, d, _, rl, e3, fun v F1 H1 g1 rl1 p1 => ?_⟩
  cases d with
  | tuple es =>
    simp only at e6
    split at e6
    · rename_i ns hn
      split at e6
      · rename_i hz
        cases e6
        obtain ⟨b, xs, rfl, hb, r⟩ := p1.lp.tup_inv
        rw [intsOf_some hn] at r
        rw [r.ints_inv] at hb
        refine ⟨b, ns, rfl, sqt_mono rl1.zn.ff hb, hz, fun p c hp hc => ⟨p, _, c, rfl, upd_same, fun ns' ha hm => ?_⟩⟩
        have gr : Gr F1 H1 F1 (upd H1 p (SetO X.w p (fun j => decide (j ∈ ns)) c)) := .mine rl1.zn.ff hp
        have hu : ns'.length = (uniqI ns).length := asc_length ha (asc_nodup (uniqI_asc ns)) fun k => by
          rw [hm, uniqI_mem]
          simp
        rw [hu]
        exact k _ F1 _ (g1.trans (.of gr)) (rl1.gr gr) (.int _)
      · cases e6
    · cases e6
  | _ => cases e6

/-! ### a dict of one's own, at first empty -/
def isK0 (ds : Kvs) : Bool := ds.all fun p => (keyOfD p.1).isSome
theorem dct_at0 {K : PySem.W.Frag} {F B H : Hp} {W : Option Wl} {σ : L2.St} {env : DL.Env} {n i : Nat} {ds : Kvs} (r : Rl K F B W σ H env n) (h : getK env i = some ds) (c : isK0 ds = true) : ∃ a kvs, σ[i]? = some (some (.ref a)) ∧ H a = some (.dK kvs) ∧ (kvs.map (·.1)).Nodup ∧ RpKv K F kvs ds ∧ F a = none := by
  obtain ⟨v, h1, a, rfl, fa, _, hH⟩ := r.sl i _ (getK_some h)
  rcases hH with ⟨xs, h2, h3, h4⟩ | ⟨xs, ks, ek, h2, h3, h4⟩
  · exact ⟨a, xs, h1, h2, h3, h4, fa⟩
  · subst ek
    simp [isK0, keyOfD] at c

def sUpdD0 (i : Nat) (m : DM) : SM := fun env => bnd (m env) fun d => match getK env i, d with
  | some ds, .dict es => match kdOf es with
    | some kd => if isK0 ds = true ∧ isK es = true ∧ ds.length + es.length ≤ lim then ret (.nx (env.set i (some (.dct (mergeD ds kd))))) else fail
    | none => fail
  | _, _ => fail
section
variable {X : Cx} {st : Stmt} {e : Expr}
theorem ds_updD0 {i : Nat} {m : DM} (h : PS X st (tDrop (tBM X.K "dict" rUpdD (tVar i) (tCons (rdE X.K m) tNil)))) : DS X st (sUpdD0 i m) := h.imp fun D σ H ⟨F, B, W, env, n, r, n', rl, e, k⟩ => by
  obtain ⟨d, n1, e1, e⟩ := bnd_some e
  cases ho : getK env i with
  | none =>
    simp only [ho, fail] at e
    cases e
  | some ds =>
    cases d with
    | dict es =>
      simp only [ho] at e
      cases hk : kdOf es with
      | none =>
        simp only [hk, fail] at e
        cases e
      | some kd =>
        simp only [hk] at e
        by_cases c : isK0 ds = true ∧ isK es = true ∧ ds.length + es.length ≤ lim
        · rw [if_pos c] at e
          obtain ⟨rfl, rfl⟩ := ret_some e
          obtain ⟨a, kvs, h1, h2, _, _, _⟩ := dct_at0 rl ho c.1
          refine ⟨_, h1, .inr (.inr (.inl ⟨rfl, .inl ⟨kvs, h2⟩⟩)), F, B, W, env, n, _, _, rl, e1, fun v F1 H1 g rl1 p1 => ?_⟩
          obtain ⟨a', kvs', h1', h2', h3', h4', f'⟩ := dct_at0 rl1 ho c.1
          rw [h1] at h1'
          cases h1'
          obtain ⟨b, more, rfl, hb, hn, hr⟩ := p1.dict_inv c.2.1
          obtain ⟨kd', k1, k2⟩ := kd_rp hr
          rw [hk] at k1
          cases k1
          obtain ⟨m1, m2⟩ := merge_rp k2 h4' h3'
          have hne : a ≠ b := fun z => by
            rw [z, hb] at f'
            cases f'
          refine ⟨a, b, kvs', more, rfl, rfl, h2', rl1.zn.ff _ _ hb, hne, by rw [kv_len h4', kv_len hr]; exact lim_le c.2.2, ?_⟩
          exact k σ F1 _ g.f (rl1.updDct (getK_some ho) h1 (.inl ⟨_, rfl, m2, m1⟩))
        · rw [if_neg c] at e
          cases e
    | _ =>
      simp only [ho, fail] at e
      cases e

def sNewK (i : Nat) : SM := fun env => ret (.nx (env.set i (some (.dct []))))
theorem ds_newK {i : Nat} (h : PS X st (tAsg tDNewK (gName i))) : DS X st (sNewK i) := h.imp fun D σ H ⟨F, B, W, env, n, r, n', rl, e, k⟩ => by
  obtain ⟨rfl, rfl⟩ := ret_some e
  intro q hq
  have gr : Gr F H F (upd H q (.dK [])) := .mine rl.zn.ff hq
  exact k _ F _ (.refl _) ((rl.gr gr).setOwn i ⟨q, rfl, same_none rl.zn.ff hq, ⟨same_none rl.zn.bb hq, rl.wo.ne hq⟩, .inl ⟨[], upd_same, by simp, .nil⟩⟩ (fresh_ne rl hq i))
/-- e not in x, x one's own -/
def dNotInO (i : Nat) (m : DM) : DM := fun env => bnd (m env) fun x => lift (match getK env i, keyOfD x with
  | some ds, some k => if isK0 ds = true then some (.bool (!(lookD ds k).isSome)) else none
  | _, _ => none)
theorem rd_notInO {K : PySem.W.Frag} {i : Nat} {m : DM} {σ : L2.St} {H : Hp} {Q : VK} (z : rdE K (dNotInO i m) σ H Q) : tDNotIn (rdE K m) (tVar i) σ H Q := by
  obtain ⟨F, B, W, env, n, d, n', rl, e, k⟩ := z
  obtain ⟨x, n1, e1, e⟩ := bnd_some e
  obtain ⟨e3, rfl⟩ := lift_some e
  split at e3
  · rename_i ds k0 hk hx
    split at e3
    · rename_i c
      cases e3
      refine ⟨F, B, W, env, n, x, _, rl, e1, fun v1 F1 H1 g1 rl1 p1 => ?_⟩
      obtain ⟨a, kvs, h1, h2, _, r, _⟩ := dct_at0 rl1 hk c
      have hx := keyOf_some hx
      subst hx
      rw [p1.kV_inv]
      refine ⟨_, h1, a, valV kvs k0, rfl, .k h2, ?_⟩
      have q := k (.bl (!(lookD ds k0).isSome)) F1 H1 g1 rl1 (.bl _)
      rcases look_rp k0 r with ⟨q1, q2⟩ | ⟨v', d', q1, q2, _⟩
      · rw [q1]
        rw [q2] at q
        exact q
      · rw [q1]
        rw [q2] at q
        exact q
    · cases e3
  · cases e3
theorem de_notInO {i : Nat} {m : DM} (h : PE X e (tDNotIn (rdE X.K m) (tVar i))) : DE X e (dNotInO i m) := h.imp fun _ _ _ z => rd_notInO z
theorem dt_notInO {i : Nat} {m : DM} (h : PT X e (tB (tDNotIn (rdE X.K m) (tVar i)))) : DT X e (tOf (dNotInO i m)) := h.imp fun _ _ _ z => rd_notInO (rd_tOf z)
end
/-! ### str(i) -/
def strOfD := arg1 fun d => match d with
  | .int i => if i.natAbs.log2 < 1920 then some (.str (toString i)) else none
  | _ => none
theorem r_str {K : PySem.W.Frag} : RCD K (fun xs H Q => ∃ i : Int, xs = [.int i] ∧ i.natAbs.log2 < 1920 ∧ Q (.str (toString i)) H) strOfD := fun F H vs ds d Q s p e k => by
  obtain ⟨d0, hx, e6⟩ := arg1_some e
  subst hx
  cases p with
  | cons p1 p =>
    cases p
    cases d0 with
    | int i =>
      simp only at e6
      split at e6
      · rename_i hi
        cases e6
        exact ⟨i, by rw [p1.int_inv], hi, k _ F H (.refl s) (.str _)⟩
      · cases e6
    | _ => cases e6
/-! ### Table(..) -/
def MakT (P : Program) (w : World) (K : PySem.W.Frag) (mg : Str → Option Value) (base : Heap) : Prop :=
  ∃ (f : Addr) (fd : FuncData) (ps : List Str), L2.Mk K (clsK K) f ∧ FnOk P w K mg base CX0 1 f fd ps (SpI K) ∧ mg "Table" = some (.ref (clsK K)) ∧ Binds K fd ps []
theorem pe_mkT {X : Cx} {j : Nat} {p pos : Pos} {e : Expr} {es : List Expr} {t : TA} (c : MakT X.prog X.w X.K X.mg X.base) (hr : Room j X.A) (hk : 2 ≤ j) (hg : Gl X "Table") (ha : PA X (e :: es) t)
    (he : starEach (e :: es) X.env = (false, eval e X.env) :: starEach es X.env := by rfl) (hpl : ((backTo pos (starEach es X.env)).any fun x => x.1) = false := by rfl) (hd : (("Table" : Str) == ("__debug__" : Str)) = false := by decide) : PE X (.Call (.Name "Table" p) (e :: es) [] pos) (tMake (clsK X.K) (SpI X.K) [] E0 t) := by
  obtain ⟨f, fd, ps, M, F, hm, b⟩ := c
  exact pe_make M F (hr.mono hk) hg hm b .nil pass0 ha hd he hpl
theorem hu65 {A : Around} {k : Nat} (hr : Room k A) : A.units + 65 < cLine := by
  have := hr.un
  omega
end DL

namespace LK
open PySem PySem.Spec PyProof.Rows L2 DL
def blt : List Str := ["abs", "all", "bool", "dict", "int", "isinstance", "len", "max", "min", "range", "set", "str", "tuple"]
abbrev n_is_number : List Str := ["thing"]
def b_is_number : SM :=
  (sRet (dAnd (dUn (isiD "int") (dVar 0)) (dNot (dUn (isiD "bool") (dVar 0)))))
def f_is_number : List PyData → Option PyData := runF b_is_number 1
abbrev n_is_tuple_of : List Str := ["thing", "many"]
def b_is_tuple_of : SM :=
  (sRet (dAnd (dUn (isiD "tuple") (dVar 0)) (dOp eqD (dCallB lenD (aCons (dVar 0) aNil)) (dVar 1))))
def f_is_tuple_of : List PyData → Option PyData := runF b_is_tuple_of 2
abbrev n_are_numbers : List Str := ["thing", "one"]
def b_are_numbers : SM :=
  (sRet (dAnd (dUn (isiD "tuple") (dVar 0)) (dCallB allD (aCons (dLst (dLc (itemsT (dVar 0)) (.nm 1) tTrue (dCallB f_is_number (aCons (dVar 1) aNil)) [1])) aNil))))
def f_are_numbers : List PyData → Option PyData := runF b_are_numbers 2
abbrev n_fewest_hours : List Str := ["lessons", "classes", "teachers", "one", "_", "other"]
def b_fewest_hours : SM :=
  (sSeq (sAsg (.tp [(.nm 1), (.nm 2)]) (dTup (aCons (dLst (dLc (itemsT (dVar 0)) (.tp [(.nm 3), (.nm 4)]) tTrue (dVar 3) [3, 4])) (aCons (dLst (dLc (itemsT (dVar 0)) (.tp [(.nm 4), (.nm 5)]) tTrue (dVar 5) [4, 5])) aNil))))
  (sRet (dCallB max1D (aCons (dLst (dOpF catD (dLst (dOpF catD (dLst (dDisp (aCons (dC (.int 0)) aNil))) (dLst (dLc (itemsL (dVar 1)) (.nm 3) tTrue (dCnt (dVar 1) (dVar 3)) [3])))) (dLst (dLc (itemsL (dVar 2)) (.nm 5) tTrue (dCnt (dVar 2) (dVar 5)) [5])))) aNil))))
def f_fewest_hours : List PyData → Option PyData := runF b_fewest_hours 6
abbrev n_is_timetable : List Str := ["lessons", "hours", "side", "taken", "k", "hour"]
def b_is_timetable : SM :=
  (sSeq (sIf (tOr (tNot (tOf (dCallB f_is_tuple_of (aCons (dVar 1) (aCons (dCallB lenD (aCons (dVar 0) aNil)) aNil))))) (tOr (tNot (tOf (dCallB f_are_numbers (aCons (dVar 1) aNil)))) (tNot (tOf (dCallB allD (aCons (dLst (dLc (itemsT (dVar 1)) (.nm 5) tTrue (dOp geD (dVar 5) (dC (.int 0))) [5])) aNil)))))) (sRet (dC (.bool false))) sPass)
  (sSeq (sFor (itemsT (dTup (aCons (dC (.int 0)) (aCons (dC (.int 1)) aNil)))) (.nm 2) (sSeq (sAsg (.nm 3) (dLst (dLc (itemsR1 (dCallB lenD (aCons (dVar 0) aNil))) (.nm 4) tTrue (dTup (aCons (dOp ixD (dOp ixD (dVar 0) (dVar 4)) (dVar 2)) (aCons (dOp ixD (dVar 1) (dVar 4)) aNil))) [4])))
  (sIf (tOf (dOp neD (dCallB lenSetKD (aCons (dVar 3) aNil)) (dCallB lenD (aCons (dVar 3) aNil)))) (sRet (dC (.bool false))) sPass)))
  (sRet (dC (.bool true)))))
def f_is_timetable : List PyData → Option PyData := runF b_is_timetable 6
abbrev n_lesson_at : List Str := ["self", "side", "name", "hour", "k"]
def b_lesson_at : SM :=
  (sSeq (sFor (itemsR1 (dCallB lenD (aCons (dLes 0) aNil))) (.nm 4) (sIf (tAnd (tOf (dOp eqD (dOp ixD (dOp ixD (dLes 0) (dVar 4)) (dVar 1)) (dVar 2))) (tOf (dOp eqD (dHr 0 (dVar 4)) (dVar 3)))) (sRet (dVar 4)) sPass))
  (sRet (dC .none)))
def f_lesson_at : Tag → List PyData → OM PyData := runW b_lesson_at 5
abbrev n_free_hour : List Str := ["self", "side", "name", "hour"]
def b_free_hour : SM :=
  (sRet (dOp ixD (dLst (dLc (itemsR1 (dMany 0)) (.nm 3) (tOf (dOp isD (dCallM f_lesson_at 0 (aCons (dVar 1) (aCons (dVar 2) (aCons (dVar 3) aNil)))) (dC .none))) (dVar 3) [3])) (dC (.int 0))))
def f_free_hour : Tag → List PyData → OM PyData := runW b_free_hour 4
abbrev n_row_from : List Str := ["self", "side", "name", "hour", "other", "found", "k"]
def b_row_from : SM :=
  (sSeq (sAsgF 5 (dDisp aNil))
  (sSeq (sAsg (.nm 6) (dCallM f_lesson_at 0 (aCons (dVar 1) (aCons (dVar 2) (aCons (dVar 3) aNil)))))
  (sSeq (sWhile 1000 (tOf (dOp isntD (dVar 6) (dC .none))) (sSeq (sApp 5 (dVar 6))
  (sSeq (sAsg (.nm 1) (dOp subD (dC (.int 1)) (dVar 1)))
  (sSeq (sPar 3 4 (aCons (dVar 4) (aCons (dVar 3) aNil)))
  (sAsg (.nm 6) (dCallM f_lesson_at 0 (aCons (dVar 1) (aCons (dOp ixD (dOp ixD (dLes 0) (dVar 6)) (dVar 1)) (aCons (dVar 3) aNil)))))))))
  (sFrz 5 (sRet (dVar 5))))))
def f_row_from : Tag → List PyData → OM PyData := runW b_row_from 7
abbrev n_turn : List Str := ["self", "row", "one", "other", "k"]
def b_turn : SM :=
  (sFor (itemsL (dVar 1)) (.nm 4) (sHr 0 (dVar 4) (dIf (tOf (dOp eqD (dHr 0 (dVar 4)) (dVar 2))) (dVar 3) (dVar 2))))
def f_turn : Tag → List PyData → OM PyData := runW b_turn 5
abbrev n_lay : List Str := ["self", "k", "one", "other", "hour", "later"]
def b_lay : SM :=
  (sSeq (sAsg (.tp [(.nm 2), (.nm 3)]) (dOp ixD (dLes 0) (dVar 1)))
  (sSeq (sPar 4 5 (aCons (dCallM f_free_hour 0 (aCons (dC (.int 0)) (aCons (dVar 2) aNil))) (aCons (dCallM f_free_hour 0 (aCons (dC (.int 1)) (aCons (dVar 3) aNil))) aNil)))
  (sSeq (sIf (tOf (dOp isntD (dCallM f_lesson_at 0 (aCons (dC (.int 1)) (aCons (dVar 3) (aCons (dVar 4) aNil)))) (dC .none))) (sDrop (dCallM f_turn 0 (aCons (dCallM f_row_from 0 (aCons (dC (.int 1)) (aCons (dVar 3) (aCons (dVar 4) (aCons (dVar 5) aNil))))) (aCons (dVar 4) (aCons (dVar 5) aNil))))) sPass)
  (sHr 0 (dVar 1) (dVar 4)))))
def f_lay : Tag → List PyData → OM PyData := runW b_lay 6
abbrev n_sizes : List Str := ["self", "hour"]
def b_sizes : SM :=
  (sRet (dLst (dLc (itemsR1 (dMany 0)) (.nm 1) tTrue (dHrCnt 0 (dVar 1)) [1])))
def f_sizes : Tag → List PyData → OM PyData := runW b_sizes 2
abbrev n_whole_row : List Str := ["self", "k", "one", "other", "found", "at", "now", "side", "hour", "mate"]
def b_whole_row : SM :=
  (sSeq (sAsgF 4 (dDisp (aCons (dVar 1) aNil)))
  (sSeq (sAsg (.nm 5) (dC (.int 0)))
  (sSeq (sWhile 1000 (tOf (dOp ltD (dVar 5) (dCallB lenD (aCons (dVarL 4) aNil)))) (sSeq (sAsg (.nm 6) (dOp ixD (dVarL 4) (dVar 5)))
  (sSeq (sFor (itemsT (dTup (aCons (dC (.int 0)) (aCons (dC (.int 1)) aNil)))) (.nm 7) (sSeq (sAsg (.nm 8) (dIf (tOf (dOp eqD (dHr 0 (dVar 6)) (dVar 2))) (dVar 3) (dVar 2)))
  (sSeq (sAsg (.nm 9) (dCallM f_lesson_at 0 (aCons (dVar 7) (aCons (dOp ixD (dOp ixD (dLes 0) (dVar 6)) (dVar 7)) (aCons (dVar 8) aNil)))))
  (sIf (tAnd (tOf (dOp isntD (dVar 9) (dC .none))) (tOf (dOp notInD (dVar 9) (dVarL 4)))) (sApp 4 (dVar 9)) sPass))))
  (sAugI 5 (fun i j => i + j) (dC (.int 1))))))
  (sFrz 4 (sRet (dVar 4))))))
def f_whole_row : Tag → List PyData → OM PyData := runW b_whole_row 10
abbrev n_longer_row : List Str := ["self", "one", "other", "met", "k", "row", "lesson"]
def b_longer_row : SM :=
  (sSeq (sNewK 3)
  (sSeq (sFor (itemsR1 (dCallB lenD (aCons (dLes 0) aNil))) (.nm 4) (sIf (tAnd (tOf (dOp eqD (dHr 0 (dVar 4)) (dVar 1))) (tOf (dNotInO 3 (dVar 4)))) (sSeq (sAsg (.nm 5) (dCallM f_whole_row 0 (aCons (dVar 4) (aCons (dVar 1) (aCons (dVar 2) aNil)))))
  (sSeq (sUpdD0 3 (dCallB dictPD (aCons (dLst (dLc (itemsL (dVar 5)) (.nm 6) tTrue (dTup (aCons (dVar 6) (aCons (dC (.bool true)) aNil))) [6])) aNil)))
  (sIf (tOf (dOp gtD (dOp mulD (dC (.int 2)) (dCallB lenD (aCons (dLst (dLc (itemsL (dVar 5)) (.nm 6) (tOf (dOp eqD (dHr 0 (dVar 6)) (dVar 1))) (dVar 6) [6])) aNil))) (dCallB lenD (aCons (dVar 5) aNil)))) (sRet (dVar 5)) sPass))) sPass))
  (sRet (dLst (dDisp aNil)))))
def f_longer_row : Tag → List PyData → OM PyData := runW b_longer_row 7
abbrev n_even_out : List Str := ["self", "sizes", "one", "other"]
def b_even_out : SM :=
  (sWhile 1000 (tAnd (tOf (dOp gtD (dMany 0) (dC (.int 0)))) (tOf (dOp gtD (dOp subD (dCallB max1D (aCons (dCallM f_sizes 0 aNil) aNil)) (dCallB min1D (aCons (dCallM f_sizes 0 aNil) aNil))) (dC (.int 1))))) (sSeq (sAsg (.nm 1) (dCallM f_sizes 0 aNil))
  (sSeq (sPar 2 3 (aCons (dIdx (dVar 1) (dCallB max1D (aCons (dVar 1) aNil))) (aCons (dIdx (dVar 1) (dCallB min1D (aCons (dVar 1) aNil))) aNil)))
  (sDrop (dCallM f_turn 0 (aCons (dCallM f_longer_row 0 (aCons (dVar 2) (aCons (dVar 3) aNil))) (aCons (dVar 2) (aCons (dVar 3) aNil))))))))
def f_even_out : Tag → List PyData → OM PyData := runW b_even_out 4
abbrev n_with_hours : List Str := ["lessons", "many", "made", "k"]
def b_with_hours : SM :=
  (sNew 2 (aCons (dVar 0) (aCons (dVar 1) aNil)) (sThen (sFor (itemsR1 (dCallB lenD (aCons (dVar 0) aNil))) (.nm 3) (sDrop (dCallM f_lay 2 (aCons (dVar 3) aNil)))) (sThen (sDrop (dCallM f_even_out 2 aNil)) (sRet (dHrT 2)))))
def f_with_hours : List PyData → Option PyData := runN b_with_hours 4
abbrev n_timetable : List Str := ["lessons", "made", "k"]
def b_timetable : SM :=
  (sNew 1 (aCons (dVar 0) (aCons (dCallB f_fewest_hours (aCons (dVar 0) aNil)) aNil))
  (sSeq (sFor (itemsR1 (dCallB lenD (aCons (dVar 0) aNil))) (.nm 2) (sDrop (dCallM f_lay 1 (aCons (dVar 2) aNil))))
  (sRet (dHrT 1))))
def f_timetable : List PyData → Option PyData := runF b_timetable 3
abbrev n__law_draws : List Str := ["script", "many", "draws", "mixed", "k", "cell", "rest", "turn"]
abbrev n__law_next : List Str := ["w", "many"]
abbrev f__law_next : Tag → List PyData → OM PyData := fNext
abbrev n__law_holds : List Str := ["w", "classes", "teachers", "lessons", "i", "hours", "more", "row", "counts", "h", "j"]
def b__law_holds : SM :=
  (sSeq (sPar 1 2 (aCons (dOp addD (dC (.int 1)) (dCallW f__law_next 0 (aCons (dC (.int 4)) aNil))) (aCons (dOp addD (dC (.int 1)) (dCallW f__law_next 0 (aCons (dC (.int 4)) aNil))) aNil)))
  (sSeq (sAsg (.nm 3) (dLst (dDisp aNil)))
  (sSeq (sFor (itemsR1 (dVar 1)) (.nm 4) (sAsg (.nm 3) (dLst (dOpF catD (dVar 3) (dLst (dLc (itemsR1 (dVar 2)) (.nm 10) tTrue (dTup (aCons (dOp addD (dC (.str "c")) (dCallB strOfD (aCons (dVar 4) aNil))) (aCons (dOp addD (dC (.str "t")) (dCallB strOfD (aCons (dVar 10) aNil))) aNil))) [10]))))))
  (sSeq (sAsg (.nm 5) (dCallB f_timetable (aCons (dCallB tupOfD (aCons (dVar 3) aNil)) aNil)))
  (sSeq (sIf (tOr (tOf (dOp neD (dCallB lenSetTD (aCons (dVar 5) aNil)) (dCallB maxD (aCons (dVar 1) (aCons (dVar 2) aNil))))) (tOr (tOf (dOp isntBD (dCallB f_is_timetable (aCons (dCallB tupOfD (aCons (dVar 3) aNil)) (aCons (dVar 5) aNil))) (dC (.bool true)))) (tOf (dOp neD (dCallB f_fewest_hours (aCons (dCallB tupOfD (aCons (dVar 3) aNil)) aNil)) (dCallB maxD (aCons (dVar 1) (aCons (dVar 2) aNil))))))) (sRet (dC (.bool false))) sPass)
  (sSeq (sAsg (.nm 6) (dOp addD (dCallB maxD (aCons (dVar 1) (aCons (dVar 2) aNil))) (dCallW f__law_next 0 (aCons (dC (.int 3)) aNil))))
  (sSeq (sAsgN f_with_hours 7 (aCons (dCallB tupOfD (aCons (dVar 3) aNil)) (aCons (dVar 6) aNil)))
  (sSeq (sAsg (.nm 8) (dLst (dLc (itemsR1 (dVar 6)) (.nm 9) tTrue (dCntT 7 (dVar 9)) [9])))
  (sRet (dAnd (dOp isBD (dCallB f_is_timetable (aCons (dCallB tupOfD (aCons (dVar 3) aNil)) (aCons (dVarT 7) aNil))) (dC (.bool true))) (dOp leD (dOp subD (dCallB max1D (aCons (dVar 8) aNil)) (dCallB min1D (aCons (dVar 8) aNil))) (dC (.int 1)))))))))))))
def f__law_holds : Tag → List PyData → OM PyData := runW b__law_holds 11
end LK

namespace LK
open PySem PySem.Spec PyProof.Rows L2 DL
def S1 : SM := (sPar 1 2 (aCons (dOp addD (dC (.int 1)) (dCallW f__law_next 0 (aCons (dC (.int 4)) aNil))) (aCons (dOp addD (dC (.int 1)) (dCallW f__law_next 0 (aCons (dC (.int 4)) aNil))) aNil)))
def S2 : SM := (sAsg (.nm 3) (dLst (dDisp aNil)))
def S3 : SM := (sFor (itemsR1 (dVar 1)) (.nm 4) (sAsg (.nm 3) (dLst (dOpF catD (dVar 3) (dLst (dLc (itemsR1 (dVar 2)) (.nm 10) tTrue (dTup (aCons (dOp addD (dC (.str "c")) (dCallB strOfD (aCons (dVar 4) aNil))) (aCons (dOp addD (dC (.str "t")) (dCallB strOfD (aCons (dVar 10) aNil))) aNil))) [10]))))))
def S4 : SM := (sAsg (.nm 5) (dCallB f_timetable (aCons (dCallB tupOfD (aCons (dVar 3) aNil)) aNil)))
def S5 : SM := (sIf (tOr (tOf (dOp neD (dCallB lenSetTD (aCons (dVar 5) aNil)) (dCallB maxD (aCons (dVar 1) (aCons (dVar 2) aNil))))) (tOr (tOf (dOp isntBD (dCallB f_is_timetable (aCons (dCallB tupOfD (aCons (dVar 3) aNil)) (aCons (dVar 5) aNil))) (dC (.bool true)))) (tOf (dOp neD (dCallB f_fewest_hours (aCons (dCallB tupOfD (aCons (dVar 3) aNil)) aNil)) (dCallB maxD (aCons (dVar 1) (aCons (dVar 2) aNil))))))) (sRet (dC (.bool false))) sPass)
def S6 : SM := (sAsg (.nm 6) (dOp addD (dCallB maxD (aCons (dVar 1) (aCons (dVar 2) aNil))) (dCallW f__law_next 0 (aCons (dC (.int 3)) aNil))))
def S7 : SM := (sAsgN f_with_hours 7 (aCons (dCallB tupOfD (aCons (dVar 3) aNil)) (aCons (dVar 6) aNil)))
def S8 : SM := (sAsg (.nm 8) (dLst (dLc (itemsR1 (dVar 6)) (.nm 9) tTrue (dCntT 7 (dVar 9)) [9])))
def S9 : SM := (sRet (dAnd (dOp isBD (dCallB f_is_timetable (aCons (dCallB tupOfD (aCons (dVar 3) aNil)) (aCons (dVarT 7) aNil))) (dC (.bool true))) (dOp leD (dOp subD (dCallB max1D (aCons (dVar 8) aNil)) (dCallB min1D (aCons (dVar 8) aNil))) (dC (.int 1)))))
theorem body_eq : b__law_holds = sSeq S1 (sSeq S2 (sSeq S3 (sSeq S4 (sSeq S5 (sSeq S6 (sSeq S7 (sSeq S8 (S9)))))))) := rfl
def l11 : PyData := .list [.tuple [.str "c0", .str "t0"]]
def h11 : PyData := .tuple [.int 0]
theorem mid11 (ws : List Int) (n : Nat) : sSeq S2 (sSeq S3 (sSeq S4 S5)) [some (.wdr (.draws ws)), some (.val (.int 1)), some (.val (.int 1)), none, none, none, none, none, none, none, none] n = some (.nx [some (.wdr (.draws ws)), some (.val (.int 1)), some (.val (.int 1)), some (.val l11), some (.val (.int 0)), some (.val h11), none, none, none, none, none], n) := by kernel_rfl
theorem end110 (ws : List Int) (n : Nat) : sSeq S7 (sSeq S8 S9) [some (.wdr (.draws ws)), some (.val (.int 1)), some (.val (.int 1)), some (.val l11), some (.val (.int 0)), some (.val h11), some (.val (.int 1)), none, none, none, none] n = some (.rt (.bool true), n) := by kernel_rfl
theorem end111 (ws : List Int) (n : Nat) : sSeq S7 (sSeq S8 S9) [some (.wdr (.draws ws)), some (.val (.int 1)), some (.val (.int 1)), some (.val l11), some (.val (.int 0)), some (.val h11), some (.val (.int 2)), none, none, none, none] n = some (.rt (.bool true), n) := by kernel_rfl
theorem end112 (ws : List Int) (n : Nat) : sSeq S7 (sSeq S8 S9) [some (.wdr (.draws ws)), some (.val (.int 1)), some (.val (.int 1)), some (.val l11), some (.val (.int 0)), some (.val h11), some (.val (.int 3)), none, none, none, none] n = some (.rt (.bool true), n) := by kernel_rfl
def l12 : PyData := .list [.tuple [.str "c0", .str "t0"], .tuple [.str "c0", .str "t1"]]
def h12 : PyData := .tuple [.int 0, .int 1]
theorem mid12 (ws : List Int) (n : Nat) : sSeq S2 (sSeq S3 (sSeq S4 S5)) [some (.wdr (.draws ws)), some (.val (.int 1)), some (.val (.int 2)), none, none, none, none, none, none, none, none] n = some (.nx [some (.wdr (.draws ws)), some (.val (.int 1)), some (.val (.int 2)), some (.val l12), some (.val (.int 0)), some (.val h12), none, none, none, none, none], n) := by kernel_rfl
theorem end120 (ws : List Int) (n : Nat) : sSeq S7 (sSeq S8 S9) [some (.wdr (.draws ws)), some (.val (.int 1)), some (.val (.int 2)), some (.val l12), some (.val (.int 0)), some (.val h12), some (.val (.int 2)), none, none, none, none] n = some (.rt (.bool true), n) := by kernel_rfl
theorem end121 (ws : List Int) (n : Nat) : sSeq S7 (sSeq S8 S9) [some (.wdr (.draws ws)), some (.val (.int 1)), some (.val (.int 2)), some (.val l12), some (.val (.int 0)), some (.val h12), some (.val (.int 3)), none, none, none, none] n = some (.rt (.bool true), n) := by kernel_rfl
theorem end122 (ws : List Int) (n : Nat) : sSeq S7 (sSeq S8 S9) [some (.wdr (.draws ws)), some (.val (.int 1)), some (.val (.int 2)), some (.val l12), some (.val (.int 0)), some (.val h12), some (.val (.int 4)), none, none, none, none] n = some (.rt (.bool true), n) := by kernel_rfl
def l13 : PyData := .list [.tuple [.str "c0", .str "t0"], .tuple [.str "c0", .str "t1"], .tuple [.str "c0", .str "t2"]]
def h13 : PyData := .tuple [.int 0, .int 1, .int 2]
theorem mid13 (ws : List Int) (n : Nat) : sSeq S2 (sSeq S3 (sSeq S4 S5)) [some (.wdr (.draws ws)), some (.val (.int 1)), some (.val (.int 3)), none, none, none, none, none, none, none, none] n = some (.nx [some (.wdr (.draws ws)), some (.val (.int 1)), some (.val (.int 3)), some (.val l13), some (.val (.int 0)), some (.val h13), none, none, none, none, none], n) := by kernel_rfl
theorem end130 (ws : List Int) (n : Nat) : sSeq S7 (sSeq S8 S9) [some (.wdr (.draws ws)), some (.val (.int 1)), some (.val (.int 3)), some (.val l13), some (.val (.int 0)), some (.val h13), some (.val (.int 3)), none, none, none, none] n = some (.rt (.bool true), n) := by kernel_rfl
theorem end131 (ws : List Int) (n : Nat) : sSeq S7 (sSeq S8 S9) [some (.wdr (.draws ws)), some (.val (.int 1)), some (.val (.int 3)), some (.val l13), some (.val (.int 0)), some (.val h13), some (.val (.int 4)), none, none, none, none] n = some (.rt (.bool true), n) := by kernel_rfl
theorem end132 (ws : List Int) (n : Nat) : sSeq S7 (sSeq S8 S9) [some (.wdr (.draws ws)), some (.val (.int 1)), some (.val (.int 3)), some (.val l13), some (.val (.int 0)), some (.val h13), some (.val (.int 5)), none, none, none, none] n = some (.rt (.bool true), n) := by kernel_rfl
def l14 : PyData := .list [.tuple [.str "c0", .str "t0"], .tuple [.str "c0", .str "t1"], .tuple [.str "c0", .str "t2"], .tuple [.str "c0", .str "t3"]]
def h14 : PyData := .tuple [.int 0, .int 1, .int 2, .int 3]
theorem mid14 (ws : List Int) (n : Nat) : sSeq S2 (sSeq S3 (sSeq S4 S5)) [some (.wdr (.draws ws)), some (.val (.int 1)), some (.val (.int 4)), none, none, none, none, none, none, none, none] n = some (.nx [some (.wdr (.draws ws)), some (.val (.int 1)), some (.val (.int 4)), some (.val l14), some (.val (.int 0)), some (.val h14), none, none, none, none, none], n) := by kernel_rfl
theorem end140 (ws : List Int) (n : Nat) : sSeq S7 (sSeq S8 S9) [some (.wdr (.draws ws)), some (.val (.int 1)), some (.val (.int 4)), some (.val l14), some (.val (.int 0)), some (.val h14), some (.val (.int 4)), none, none, none, none] n = some (.rt (.bool true), n) := by kernel_rfl
theorem end141 (ws : List Int) (n : Nat) : sSeq S7 (sSeq S8 S9) [some (.wdr (.draws ws)), some (.val (.int 1)), some (.val (.int 4)), some (.val l14), some (.val (.int 0)), some (.val h14), some (.val (.int 5)), none, none, none, none] n = some (.rt (.bool true), n) := by kernel_rfl
theorem end142 (ws : List Int) (n : Nat) : sSeq S7 (sSeq S8 S9) [some (.wdr (.draws ws)), some (.val (.int 1)), some (.val (.int 4)), some (.val l14), some (.val (.int 0)), some (.val h14), some (.val (.int 6)), none, none, none, none] n = some (.rt (.bool true), n) := by kernel_rfl
def l21 : PyData := .list [.tuple [.str "c0", .str "t0"], .tuple [.str "c1", .str "t0"]]
def h21 : PyData := .tuple [.int 1, .int 0]
theorem mid21 (ws : List Int) (n : Nat) : sSeq S2 (sSeq S3 (sSeq S4 S5)) [some (.wdr (.draws ws)), some (.val (.int 2)), some (.val (.int 1)), none, none, none, none, none, none, none, none] n = some (.nx [some (.wdr (.draws ws)), some (.val (.int 2)), some (.val (.int 1)), some (.val l21), some (.val (.int 1)), some (.val h21), none, none, none, none, none], n) := by kernel_rfl
theorem end210 (ws : List Int) (n : Nat) : sSeq S7 (sSeq S8 S9) [some (.wdr (.draws ws)), some (.val (.int 2)), some (.val (.int 1)), some (.val l21), some (.val (.int 1)), some (.val h21), some (.val (.int 2)), none, none, none, none] n = some (.rt (.bool true), n) := by kernel_rfl
theorem end211 (ws : List Int) (n : Nat) : sSeq S7 (sSeq S8 S9) [some (.wdr (.draws ws)), some (.val (.int 2)), some (.val (.int 1)), some (.val l21), some (.val (.int 1)), some (.val h21), some (.val (.int 3)), none, none, none, none] n = some (.rt (.bool true), n) := by kernel_rfl
theorem end212 (ws : List Int) (n : Nat) : sSeq S7 (sSeq S8 S9) [some (.wdr (.draws ws)), some (.val (.int 2)), some (.val (.int 1)), some (.val l21), some (.val (.int 1)), some (.val h21), some (.val (.int 4)), none, none, none, none] n = some (.rt (.bool true), n) := by kernel_rfl
def l22 : PyData := .list [.tuple [.str "c0", .str "t0"], .tuple [.str "c0", .str "t1"], .tuple [.str "c1", .str "t0"], .tuple [.str "c1", .str "t1"]]
def h22 : PyData := .tuple [.int 1, .int 0, .int 0, .int 1]
theorem mid22 (ws : List Int) (n : Nat) : sSeq S2 (sSeq S3 (sSeq S4 S5)) [some (.wdr (.draws ws)), some (.val (.int 2)), some (.val (.int 2)), none, none, none, none, none, none, none, none] n = some (.nx [some (.wdr (.draws ws)), some (.val (.int 2)), some (.val (.int 2)), some (.val l22), some (.val (.int 1)), some (.val h22), none, none, none, none, none], n) := by kernel_rfl
theorem end220 (ws : List Int) (n : Nat) : sSeq S7 (sSeq S8 S9) [some (.wdr (.draws ws)), some (.val (.int 2)), some (.val (.int 2)), some (.val l22), some (.val (.int 1)), some (.val h22), some (.val (.int 2)), none, none, none, none] n = some (.rt (.bool true), n) := by kernel_rfl
theorem end221 (ws : List Int) (n : Nat) : sSeq S7 (sSeq S8 S9) [some (.wdr (.draws ws)), some (.val (.int 2)), some (.val (.int 2)), some (.val l22), some (.val (.int 1)), some (.val h22), some (.val (.int 3)), none, none, none, none] n = some (.rt (.bool true), n) := by kernel_rfl
theorem end222 (ws : List Int) (n : Nat) : sSeq S7 (sSeq S8 S9) [some (.wdr (.draws ws)), some (.val (.int 2)), some (.val (.int 2)), some (.val l22), some (.val (.int 1)), some (.val h22), some (.val (.int 4)), none, none, none, none] n = some (.rt (.bool true), n) := by kernel_rfl
def l23 : PyData := .list [.tuple [.str "c0", .str "t0"], .tuple [.str "c0", .str "t1"], .tuple [.str "c0", .str "t2"], .tuple [.str "c1", .str "t0"], .tuple [.str "c1", .str "t1"], .tuple [.str "c1", .str "t2"]]
def h23 : PyData := .tuple [.int 1, .int 2, .int 0, .int 0, .int 1, .int 2]
theorem mid23 (ws : List Int) (n : Nat) : sSeq S2 (sSeq S3 (sSeq S4 S5)) [some (.wdr (.draws ws)), some (.val (.int 2)), some (.val (.int 3)), none, none, none, none, none, none, none, none] n = some (.nx [some (.wdr (.draws ws)), some (.val (.int 2)), some (.val (.int 3)), some (.val l23), some (.val (.int 1)), some (.val h23), none, none, none, none, none], n) := by kernel_rfl
theorem end230 (ws : List Int) (n : Nat) : sSeq S7 (sSeq S8 S9) [some (.wdr (.draws ws)), some (.val (.int 2)), some (.val (.int 3)), some (.val l23), some (.val (.int 1)), some (.val h23), some (.val (.int 3)), none, none, none, none] n = some (.rt (.bool true), n) := by kernel_rfl
theorem end231 (ws : List Int) (n : Nat) : sSeq S7 (sSeq S8 S9) [some (.wdr (.draws ws)), some (.val (.int 2)), some (.val (.int 3)), some (.val l23), some (.val (.int 1)), some (.val h23), some (.val (.int 4)), none, none, none, none] n = some (.rt (.bool true), n) := by kernel_rfl
theorem end232 (ws : List Int) (n : Nat) : sSeq S7 (sSeq S8 S9) [some (.wdr (.draws ws)), some (.val (.int 2)), some (.val (.int 3)), some (.val l23), some (.val (.int 1)), some (.val h23), some (.val (.int 5)), none, none, none, none] n = some (.rt (.bool true), n) := by kernel_rfl
def l24 : PyData := .list [.tuple [.str "c0", .str "t0"], .tuple [.str "c0", .str "t1"], .tuple [.str "c0", .str "t2"], .tuple [.str "c0", .str "t3"], .tuple [.str "c1", .str "t0"], .tuple [.str "c1", .str "t1"], .tuple [.str "c1", .str "t2"], .tuple [.str "c1", .str "t3"]]
def h24 : PyData := .tuple [.int 1, .int 2, .int 3, .int 0, .int 0, .int 1, .int 2, .int 3]
theorem mid24 (ws : List Int) (n : Nat) : sSeq S2 (sSeq S3 (sSeq S4 S5)) [some (.wdr (.draws ws)), some (.val (.int 2)), some (.val (.int 4)), none, none, none, none, none, none, none, none] n = some (.nx [some (.wdr (.draws ws)), some (.val (.int 2)), some (.val (.int 4)), some (.val l24), some (.val (.int 1)), some (.val h24), none, none, none, none, none], n) := by kernel_rfl
theorem end240 (ws : List Int) (n : Nat) : sSeq S7 (sSeq S8 S9) [some (.wdr (.draws ws)), some (.val (.int 2)), some (.val (.int 4)), some (.val l24), some (.val (.int 1)), some (.val h24), some (.val (.int 4)), none, none, none, none] n = some (.rt (.bool true), n) := by kernel_rfl
theorem end241 (ws : List Int) (n : Nat) : sSeq S7 (sSeq S8 S9) [some (.wdr (.draws ws)), some (.val (.int 2)), some (.val (.int 4)), some (.val l24), some (.val (.int 1)), some (.val h24), some (.val (.int 5)), none, none, none, none] n = some (.rt (.bool true), n) := by kernel_rfl
theorem end242 (ws : List Int) (n : Nat) : sSeq S7 (sSeq S8 S9) [some (.wdr (.draws ws)), some (.val (.int 2)), some (.val (.int 4)), some (.val l24), some (.val (.int 1)), some (.val h24), some (.val (.int 6)), none, none, none, none] n = some (.rt (.bool true), n) := by kernel_rfl
def l31 : PyData := .list [.tuple [.str "c0", .str "t0"], .tuple [.str "c1", .str "t0"], .tuple [.str "c2", .str "t0"]]
def h31 : PyData := .tuple [.int 1, .int 2, .int 0]
theorem mid31 (ws : List Int) (n : Nat) : sSeq S2 (sSeq S3 (sSeq S4 S5)) [some (.wdr (.draws ws)), some (.val (.int 3)), some (.val (.int 1)), none, none, none, none, none, none, none, none] n = some (.nx [some (.wdr (.draws ws)), some (.val (.int 3)), some (.val (.int 1)), some (.val l31), some (.val (.int 2)), some (.val h31), none, none, none, none, none], n) := by kernel_rfl
theorem end310 (ws : List Int) (n : Nat) : sSeq S7 (sSeq S8 S9) [some (.wdr (.draws ws)), some (.val (.int 3)), some (.val (.int 1)), some (.val l31), some (.val (.int 2)), some (.val h31), some (.val (.int 3)), none, none, none, none] n = some (.rt (.bool true), n) := by kernel_rfl
theorem end311 (ws : List Int) (n : Nat) : sSeq S7 (sSeq S8 S9) [some (.wdr (.draws ws)), some (.val (.int 3)), some (.val (.int 1)), some (.val l31), some (.val (.int 2)), some (.val h31), some (.val (.int 4)), none, none, none, none] n = some (.rt (.bool true), n) := by kernel_rfl
theorem end312 (ws : List Int) (n : Nat) : sSeq S7 (sSeq S8 S9) [some (.wdr (.draws ws)), some (.val (.int 3)), some (.val (.int 1)), some (.val l31), some (.val (.int 2)), some (.val h31), some (.val (.int 5)), none, none, none, none] n = some (.rt (.bool true), n) := by kernel_rfl
def l32 : PyData := .list [.tuple [.str "c0", .str "t0"], .tuple [.str "c0", .str "t1"], .tuple [.str "c1", .str "t0"], .tuple [.str "c1", .str "t1"], .tuple [.str "c2", .str "t0"], .tuple [.str "c2", .str "t1"]]
def h32 : PyData := .tuple [.int 2, .int 0, .int 1, .int 2, .int 0, .int 1]
theorem mid32 (ws : List Int) (n : Nat) : sSeq S2 (sSeq S3 (sSeq S4 S5)) [some (.wdr (.draws ws)), some (.val (.int 3)), some (.val (.int 2)), none, none, none, none, none, none, none, none] n = some (.nx [some (.wdr (.draws ws)), some (.val (.int 3)), some (.val (.int 2)), some (.val l32), some (.val (.int 2)), some (.val h32), none, none, none, none, none], n) := by kernel_rfl
theorem end320 (ws : List Int) (n : Nat) : sSeq S7 (sSeq S8 S9) [some (.wdr (.draws ws)), some (.val (.int 3)), some (.val (.int 2)), some (.val l32), some (.val (.int 2)), some (.val h32), some (.val (.int 3)), none, none, none, none] n = some (.rt (.bool true), n) := by kernel_rfl
theorem end321 (ws : List Int) (n : Nat) : sSeq S7 (sSeq S8 S9) [some (.wdr (.draws ws)), some (.val (.int 3)), some (.val (.int 2)), some (.val l32), some (.val (.int 2)), some (.val h32), some (.val (.int 4)), none, none, none, none] n = some (.rt (.bool true), n) := by kernel_rfl
theorem end322 (ws : List Int) (n : Nat) : sSeq S7 (sSeq S8 S9) [some (.wdr (.draws ws)), some (.val (.int 3)), some (.val (.int 2)), some (.val l32), some (.val (.int 2)), some (.val h32), some (.val (.int 5)), none, none, none, none] n = some (.rt (.bool true), n) := by kernel_rfl
def l33 : PyData := .list [.tuple [.str "c0", .str "t0"], .tuple [.str "c0", .str "t1"], .tuple [.str "c0", .str "t2"], .tuple [.str "c1", .str "t0"], .tuple [.str "c1", .str "t1"], .tuple [.str "c1", .str "t2"], .tuple [.str "c2", .str "t0"], .tuple [.str "c2", .str "t1"], .tuple [.str "c2", .str "t2"]]
def h33 : PyData := .tuple [.int 2, .int 0, .int 1, .int 1, .int 2, .int 0, .int 0, .int 1, .int 2]
theorem mid33 (ws : List Int) (n : Nat) : sSeq S2 (sSeq S3 (sSeq S4 S5)) [some (.wdr (.draws ws)), some (.val (.int 3)), some (.val (.int 3)), none, none, none, none, none, none, none, none] n = some (.nx [some (.wdr (.draws ws)), some (.val (.int 3)), some (.val (.int 3)), some (.val l33), some (.val (.int 2)), some (.val h33), none, none, none, none, none], n) := by kernel_rfl
theorem end330 (ws : List Int) (n : Nat) : sSeq S7 (sSeq S8 S9) [some (.wdr (.draws ws)), some (.val (.int 3)), some (.val (.int 3)), some (.val l33), some (.val (.int 2)), some (.val h33), some (.val (.int 3)), none, none, none, none] n = some (.rt (.bool true), n) := by kernel_rfl
theorem end331 (ws : List Int) (n : Nat) : sSeq S7 (sSeq S8 S9) [some (.wdr (.draws ws)), some (.val (.int 3)), some (.val (.int 3)), some (.val l33), some (.val (.int 2)), some (.val h33), some (.val (.int 4)), none, none, none, none] n = some (.rt (.bool true), n) := by kernel_rfl
theorem end332 (ws : List Int) (n : Nat) : sSeq S7 (sSeq S8 S9) [some (.wdr (.draws ws)), some (.val (.int 3)), some (.val (.int 3)), some (.val l33), some (.val (.int 2)), some (.val h33), some (.val (.int 5)), none, none, none, none] n = some (.rt (.bool true), n) := by kernel_rfl
def l34 : PyData := .list [.tuple [.str "c0", .str "t0"], .tuple [.str "c0", .str "t1"], .tuple [.str "c0", .str "t2"], .tuple [.str "c0", .str "t3"], .tuple [.str "c1", .str "t0"], .tuple [.str "c1", .str "t1"], .tuple [.str "c1", .str "t2"], .tuple [.str "c1", .str "t3"], .tuple [.str "c2", .str "t0"], .tuple [.str "c2", .str "t1"], .tuple [.str "c2", .str "t2"], .tuple [.str "c2", .str "t3"]]
def h34 : PyData := .tuple [.int 3, .int 2, .int 1, .int 0, .int 2, .int 0, .int 3, .int 1, .int 0, .int 1, .int 2, .int 3]
theorem mid34 (ws : List Int) (n : Nat) : sSeq S2 (sSeq S3 (sSeq S4 S5)) [some (.wdr (.draws ws)), some (.val (.int 3)), some (.val (.int 4)), none, none, none, none, none, none, none, none] n = some (.nx [some (.wdr (.draws ws)), some (.val (.int 3)), some (.val (.int 4)), some (.val l34), some (.val (.int 2)), some (.val h34), none, none, none, none, none], n) := by kernel_rfl
theorem end340 (ws : List Int) (n : Nat) : sSeq S7 (sSeq S8 S9) [some (.wdr (.draws ws)), some (.val (.int 3)), some (.val (.int 4)), some (.val l34), some (.val (.int 2)), some (.val h34), some (.val (.int 4)), none, none, none, none] n = some (.rt (.bool true), n) := by kernel_rfl
theorem end341 (ws : List Int) (n : Nat) : sSeq S7 (sSeq S8 S9) [some (.wdr (.draws ws)), some (.val (.int 3)), some (.val (.int 4)), some (.val l34), some (.val (.int 2)), some (.val h34), some (.val (.int 5)), none, none, none, none] n = some (.rt (.bool true), n) := by kernel_rfl
theorem end342 (ws : List Int) (n : Nat) : sSeq S7 (sSeq S8 S9) [some (.wdr (.draws ws)), some (.val (.int 3)), some (.val (.int 4)), some (.val l34), some (.val (.int 2)), some (.val h34), some (.val (.int 6)), none, none, none, none] n = some (.rt (.bool true), n) := by kernel_rfl
def l41 : PyData := .list [.tuple [.str "c0", .str "t0"], .tuple [.str "c1", .str "t0"], .tuple [.str "c2", .str "t0"], .tuple [.str "c3", .str "t0"]]
def h41 : PyData := .tuple [.int 1, .int 2, .int 3, .int 0]
theorem mid41 (ws : List Int) (n : Nat) : sSeq S2 (sSeq S3 (sSeq S4 S5)) [some (.wdr (.draws ws)), some (.val (.int 4)), some (.val (.int 1)), none, none, none, none, none, none, none, none] n = some (.nx [some (.wdr (.draws ws)), some (.val (.int 4)), some (.val (.int 1)), some (.val l41), some (.val (.int 3)), some (.val h41), none, none, none, none, none], n) := by kernel_rfl
theorem end410 (ws : List Int) (n : Nat) : sSeq S7 (sSeq S8 S9) [some (.wdr (.draws ws)), some (.val (.int 4)), some (.val (.int 1)), some (.val l41), some (.val (.int 3)), some (.val h41), some (.val (.int 4)), none, none, none, none] n = some (.rt (.bool true), n) := by kernel_rfl
theorem end411 (ws : List Int) (n : Nat) : sSeq S7 (sSeq S8 S9) [some (.wdr (.draws ws)), some (.val (.int 4)), some (.val (.int 1)), some (.val l41), some (.val (.int 3)), some (.val h41), some (.val (.int 5)), none, none, none, none] n = some (.rt (.bool true), n) := by kernel_rfl
theorem end412 (ws : List Int) (n : Nat) : sSeq S7 (sSeq S8 S9) [some (.wdr (.draws ws)), some (.val (.int 4)), some (.val (.int 1)), some (.val l41), some (.val (.int 3)), some (.val h41), some (.val (.int 6)), none, none, none, none] n = some (.rt (.bool true), n) := by kernel_rfl
def l42 : PyData := .list [.tuple [.str "c0", .str "t0"], .tuple [.str "c0", .str "t1"], .tuple [.str "c1", .str "t0"], .tuple [.str "c1", .str "t1"], .tuple [.str "c2", .str "t0"], .tuple [.str "c2", .str "t1"], .tuple [.str "c3", .str "t0"], .tuple [.str "c3", .str "t1"]]
def h42 : PyData := .tuple [.int 2, .int 0, .int 3, .int 2, .int 1, .int 3, .int 0, .int 1]
theorem mid42 (ws : List Int) (n : Nat) : sSeq S2 (sSeq S3 (sSeq S4 S5)) [some (.wdr (.draws ws)), some (.val (.int 4)), some (.val (.int 2)), none, none, none, none, none, none, none, none] n = some (.nx [some (.wdr (.draws ws)), some (.val (.int 4)), some (.val (.int 2)), some (.val l42), some (.val (.int 3)), some (.val h42), none, none, none, none, none], n) := by kernel_rfl
theorem end420 (ws : List Int) (n : Nat) : sSeq S7 (sSeq S8 S9) [some (.wdr (.draws ws)), some (.val (.int 4)), some (.val (.int 2)), some (.val l42), some (.val (.int 3)), some (.val h42), some (.val (.int 4)), none, none, none, none] n = some (.rt (.bool true), n) := by kernel_rfl
theorem end421 (ws : List Int) (n : Nat) : sSeq S7 (sSeq S8 S9) [some (.wdr (.draws ws)), some (.val (.int 4)), some (.val (.int 2)), some (.val l42), some (.val (.int 3)), some (.val h42), some (.val (.int 5)), none, none, none, none] n = some (.rt (.bool true), n) := by kernel_rfl
theorem end422 (ws : List Int) (n : Nat) : sSeq S7 (sSeq S8 S9) [some (.wdr (.draws ws)), some (.val (.int 4)), some (.val (.int 2)), some (.val l42), some (.val (.int 3)), some (.val h42), some (.val (.int 6)), none, none, none, none] n = some (.rt (.bool true), n) := by kernel_rfl
def l43 : PyData := .list [.tuple [.str "c0", .str "t0"], .tuple [.str "c0", .str "t1"], .tuple [.str "c0", .str "t2"], .tuple [.str "c1", .str "t0"], .tuple [.str "c1", .str "t1"], .tuple [.str "c1", .str "t2"], .tuple [.str "c2", .str "t0"], .tuple [.str "c2", .str "t1"], .tuple [.str "c2", .str "t2"], .tuple [.str "c3", .str "t0"], .tuple [.str "c3", .str "t1"], .tuple [.str "c3", .str "t2"]]
def h43 : PyData := .tuple [.int 3, .int 0, .int 1, .int 2, .int 3, .int 0, .int 1, .int 2, .int 3, .int 0, .int 1, .int 2]
theorem mid43 (ws : List Int) (n : Nat) : sSeq S2 (sSeq S3 (sSeq S4 S5)) [some (.wdr (.draws ws)), some (.val (.int 4)), some (.val (.int 3)), none, none, none, none, none, none, none, none] n = some (.nx [some (.wdr (.draws ws)), some (.val (.int 4)), some (.val (.int 3)), some (.val l43), some (.val (.int 3)), some (.val h43), none, none, none, none, none], n) := by kernel_rfl
theorem end430 (ws : List Int) (n : Nat) : sSeq S7 (sSeq S8 S9) [some (.wdr (.draws ws)), some (.val (.int 4)), some (.val (.int 3)), some (.val l43), some (.val (.int 3)), some (.val h43), some (.val (.int 4)), none, none, none, none] n = some (.rt (.bool true), n) := by kernel_rfl
theorem end431 (ws : List Int) (n : Nat) : sSeq S7 (sSeq S8 S9) [some (.wdr (.draws ws)), some (.val (.int 4)), some (.val (.int 3)), some (.val l43), some (.val (.int 3)), some (.val h43), some (.val (.int 5)), none, none, none, none] n = some (.rt (.bool true), n) := by kernel_rfl
theorem end432 (ws : List Int) (n : Nat) : sSeq S7 (sSeq S8 S9) [some (.wdr (.draws ws)), some (.val (.int 4)), some (.val (.int 3)), some (.val l43), some (.val (.int 3)), some (.val h43), some (.val (.int 6)), none, none, none, none] n = some (.rt (.bool true), n) := by kernel_rfl
def l44 : PyData := .list [.tuple [.str "c0", .str "t0"], .tuple [.str "c0", .str "t1"], .tuple [.str "c0", .str "t2"], .tuple [.str "c0", .str "t3"], .tuple [.str "c1", .str "t0"], .tuple [.str "c1", .str "t1"], .tuple [.str "c1", .str "t2"], .tuple [.str "c1", .str "t3"], .tuple [.str "c2", .str "t0"], .tuple [.str "c2", .str "t1"], .tuple [.str "c2", .str "t2"], .tuple [.str "c2", .str "t3"], .tuple [.str "c3", .str "t0"], .tuple [.str "c3", .str "t1"], .tuple [.str "c3", .str "t2"], .tuple [.str "c3", .str "t3"]]
def h44 : PyData := .tuple [.int 3, .int 2, .int 0, .int 1, .int 2, .int 3, .int 1, .int 0, .int 1, .int 0, .int 3, .int 2, .int 0, .int 1, .int 2, .int 3]
theorem mid44 (ws : List Int) (n : Nat) : sSeq S2 (sSeq S3 (sSeq S4 S5)) [some (.wdr (.draws ws)), some (.val (.int 4)), some (.val (.int 4)), none, none, none, none, none, none, none, none] n = some (.nx [some (.wdr (.draws ws)), some (.val (.int 4)), some (.val (.int 4)), some (.val l44), some (.val (.int 3)), some (.val h44), none, none, none, none, none], n) := by kernel_rfl
theorem end440 (ws : List Int) (n : Nat) : sSeq S7 (sSeq S8 S9) [some (.wdr (.draws ws)), some (.val (.int 4)), some (.val (.int 4)), some (.val l44), some (.val (.int 3)), some (.val h44), some (.val (.int 4)), none, none, none, none] n = some (.rt (.bool true), n) := by kernel_rfl
theorem end441 (ws : List Int) (n : Nat) : sSeq S7 (sSeq S8 S9) [some (.wdr (.draws ws)), some (.val (.int 4)), some (.val (.int 4)), some (.val l44), some (.val (.int 3)), some (.val h44), some (.val (.int 5)), none, none, none, none] n = some (.rt (.bool true), n) := by kernel_rfl
theorem end442 (ws : List Int) (n : Nat) : sSeq S7 (sSeq S8 S9) [some (.wdr (.draws ws)), some (.val (.int 4)), some (.val (.int 4)), some (.val l44), some (.val (.int 3)), some (.val h44), some (.val (.int 6)), none, none, none, none] n = some (.rt (.bool true), n) := by kernel_rfl
end LK

namespace LK
open PySem PySem.Spec PyProof.Rows L2 DL
theorem seq_assoc5 (A B C D R : SM) (env : DL.Env) (n : Nat) (e2 : DL.Env) (n2 : Nat) (h : sSeq A (sSeq B (sSeq C D)) env n = some (.nx e2, n2)) : sSeq A (sSeq B (sSeq C (sSeq D R))) env n = R e2 n2 := by
  have e : sSeq A (sSeq B (sSeq C (sSeq D R))) env = bnd (sSeq A (sSeq B (sSeq C D)) env) fun q => match q with
    | .nx e => R e
    | .ct e => ret (.ct e)
    | .bk e => ret (.bk e)
    | .rt d => ret (.rt d) := by
    simp only [e_Seq, bnd_assoc]
    congr 1
    funext q
    cases q with
    | nx e =>
      simp only [bnd_assoc]
      congr 1
      funext q
      cases q with
      | nx e =>
        simp only [bnd_assoc]
        congr 1
        funext q
        cases q with
        | nx e => congr 1
        | _ => simp
      | _ => simp
    | _ => simp
  rw [e, bnd_of h]
theorem s1_eq {ws : List Int} (hd : Dr ws) (n : Nat) : S1 [some (.wdr (.draws ws)), none, none, none, none, none, none, none, none, none, none] n = some (.nx [some (.wdr (.draws ws)), some (.val (.int (1 + nx ws n 4))), some (.val (.int (1 + nx ws (n + 1) 4))), none, none, none, none, none, none, none, none], n + 1 + 1) := by
  unfold S1
  simp
  rw [bnd_next (by decide)]
  simp
  rw [bnd_next (by decide)]
  simp [ret_ap]
theorem s6_eq {ws : List Int} (hd : Dr ws) (n : Nat) (a b : Int) (x3 x4 x5 : Option En) : S6 [some (.wdr (.draws ws)), some (.val (.int a)), some (.val (.int b)), x3, x4, x5, none, none, none, none, none] n = some (.nx [some (.wdr (.draws ws)), some (.val (.int a)), some (.val (.int b)), x3, x4, x5, some (.val (.int ((if b > a then b else a) + nx ws n 3))), none, none, none, none], n + 1) := by
  unfold S6
  simp
  rw [bnd_next (by decide)]
  simp [ret_ap]
theorem hold_ok : HoldOk f__law_holds := by
  intro ws hd n
  unfold f__law_holds runW
  rw [show startW 11 (.draws ws) [] = [some (.wdr (.draws ws)), none, none, none, none, none, none, none, none, none, none] from rfl, body_eq]
  rw [e_Seq, bnd_assoc, bnd_of (s1_eq hd n)]
  dsimp only
  obtain ⟨h0, h1, _⟩ := nx_rng hd n (m := 4) (by decide)
  obtain ⟨h2, h3, _⟩ := nx_rng hd (n + 1) (m := 4) (by decide)
  obtain ⟨h4, h5, _⟩ := nx_rng hd (n + 1 + 1) (m := 3) (by decide)
  generalize nx ws n 4 = a at *
  generalize nx ws (n + 1) 4 = b at *
  have ha : a = 0 ∨ a = 1 ∨ a = 2 ∨ a = 3 := by omega
  have hb : b = 0 ∨ b = 1 ∨ b = 2 ∨ b = 3 := by omega
  have hc : nx ws (n + 1 + 1) 3 = 0 ∨ nx ws (n + 1 + 1) 3 = 1 ∨ nx ws (n + 1 + 1) 3 = 2 := by omega
  refine ⟨n + 1 + 1 + 1, ?_⟩
  rcases ha with rfl | rfl | rfl | rfl
  · rcases hb with rfl | rfl | rfl | rfl
    · refine bnd_of (a := Fl.rt (.bool true)) (n' := n + 1 + 1 + 1) ?_
      refine (seq_assoc5 _ _ _ _ _ _ _ _ _ (mid11 ws (n + 1 + 1))).trans ?_
      rw [e_Seq, bnd_of (s6_eq hd (n + 1 + 1) _ _ _ _ _)]
      dsimp only
      rcases hc with hc | hc | hc <;> rw [hc]
      · exact end110 ws _
      · exact end111 ws _
      · exact end112 ws _
    · refine bnd_of (a := Fl.rt (.bool true)) (n' := n + 1 + 1 + 1) ?_
      refine (seq_assoc5 _ _ _ _ _ _ _ _ _ (mid12 ws (n + 1 + 1))).trans ?_
      rw [e_Seq, bnd_of (s6_eq hd (n + 1 + 1) _ _ _ _ _)]
      dsimp only
      rcases hc with hc | hc | hc <;> rw [hc]
      · exact end120 ws _
      · exact end121 ws _
      · exact end122 ws _
    · refine bnd_of (a := Fl.rt (.bool true)) (n' := n + 1 + 1 + 1) ?_
      refine (seq_assoc5 _ _ _ _ _ _ _ _ _ (mid13 ws (n + 1 + 1))).trans ?_
      rw [e_Seq, bnd_of (s6_eq hd (n + 1 + 1) _ _ _ _ _)]
      dsimp only
      rcases hc with hc | hc | hc <;> rw [hc]
      · exact end130 ws _
      · exact end131 ws _
      · exact end132 ws _
    · refine bnd_of (a := Fl.rt (.bool true)) (n' := n + 1 + 1 + 1) ?_
      refine (seq_assoc5 _ _ _ _ _ _ _ _ _ (mid14 ws (n + 1 + 1))).trans ?_
      rw [e_Seq, bnd_of (s6_eq hd (n + 1 + 1) _ _ _ _ _)]
      dsimp only
      rcases hc with hc | hc | hc <;> rw [hc]
      · exact end140 ws _
      · exact end141 ws _
      · exact end142 ws _
  · rcases hb with rfl | rfl | rfl | rfl
    · refine bnd_of (a := Fl.rt (.bool true)) (n' := n + 1 + 1 + 1) ?_
      refine (seq_assoc5 _ _ _ _ _ _ _ _ _ (mid21 ws (n + 1 + 1))).trans ?_
      rw [e_Seq, bnd_of (s6_eq hd (n + 1 + 1) _ _ _ _ _)]
      dsimp only
      rcases hc with hc | hc | hc <;> rw [hc]
      · exact end210 ws _
      · exact end211 ws _
      · exact end212 ws _
    · refine bnd_of (a := Fl.rt (.bool true)) (n' := n + 1 + 1 + 1) ?_
      refine (seq_assoc5 _ _ _ _ _ _ _ _ _ (mid22 ws (n + 1 + 1))).trans ?_
      rw [e_Seq, bnd_of (s6_eq hd (n + 1 + 1) _ _ _ _ _)]
      dsimp only
      rcases hc with hc | hc | hc <;> rw [hc]
      · exact end220 ws _
      · exact end221 ws _
      · exact end222 ws _
    · refine bnd_of (a := Fl.rt (.bool true)) (n' := n + 1 + 1 + 1) ?_
      refine (seq_assoc5 _ _ _ _ _ _ _ _ _ (mid23 ws (n + 1 + 1))).trans ?_
      rw [e_Seq, bnd_of (s6_eq hd (n + 1 + 1) _ _ _ _ _)]
      dsimp only
      rcases hc with hc | hc | hc <;> rw [hc]
      · exact end230 ws _
      · exact end231 ws _
      · exact end232 ws _
    · refine bnd_of (a := Fl.rt (.bool true)) (n' := n + 1 + 1 + 1) ?_
      refine (seq_assoc5 _ _ _ _ _ _ _ _ _ (mid24 ws (n + 1 + 1))).trans ?_
      rw [e_Seq, bnd_of (s6_eq hd (n + 1 + 1) _ _ _ _ _)]
      dsimp only
      rcases hc with hc | hc | hc <;> rw [hc]
      · exact end240 ws _
      · exact end241 ws _
      · exact end242 ws _
  · rcases hb with rfl | rfl | rfl | rfl
    · refine bnd_of (a := Fl.rt (.bool true)) (n' := n + 1 + 1 + 1) ?_
      refine (seq_assoc5 _ _ _ _ _ _ _ _ _ (mid31 ws (n + 1 + 1))).trans ?_
      rw [e_Seq, bnd_of (s6_eq hd (n + 1 + 1) _ _ _ _ _)]
      dsimp only
      rcases hc with hc | hc | hc <;> rw [hc]
      · exact end310 ws _
      · exact end311 ws _
      · exact end312 ws _
    · refine bnd_of (a := Fl.rt (.bool true)) (n' := n + 1 + 1 + 1) ?_
      refine (seq_assoc5 _ _ _ _ _ _ _ _ _ (mid32 ws (n + 1 + 1))).trans ?_
      rw [e_Seq, bnd_of (s6_eq hd (n + 1 + 1) _ _ _ _ _)]
      dsimp only
      rcases hc with hc | hc | hc <;> rw [hc]
      · exact end320 ws _
      · exact end321 ws _
      · exact end322 ws _
    · refine bnd_of (a := Fl.rt (.bool true)) (n' := n + 1 + 1 + 1) ?_
      refine (seq_assoc5 _ _ _ _ _ _ _ _ _ (mid33 ws (n + 1 + 1))).trans ?_
      rw [e_Seq, bnd_of (s6_eq hd (n + 1 + 1) _ _ _ _ _)]
      dsimp only
      rcases hc with hc | hc | hc <;> rw [hc]
      · exact end330 ws _
      · exact end331 ws _
      · exact end332 ws _
    · refine bnd_of (a := Fl.rt (.bool true)) (n' := n + 1 + 1 + 1) ?_
      refine (seq_assoc5 _ _ _ _ _ _ _ _ _ (mid34 ws (n + 1 + 1))).trans ?_
      rw [e_Seq, bnd_of (s6_eq hd (n + 1 + 1) _ _ _ _ _)]
      dsimp only
      rcases hc with hc | hc | hc <;> rw [hc]
      · exact end340 ws _
      · exact end341 ws _
      · exact end342 ws _
  · rcases hb with rfl | rfl | rfl | rfl
    · refine bnd_of (a := Fl.rt (.bool true)) (n' := n + 1 + 1 + 1) ?_
      refine (seq_assoc5 _ _ _ _ _ _ _ _ _ (mid41 ws (n + 1 + 1))).trans ?_
      rw [e_Seq, bnd_of (s6_eq hd (n + 1 + 1) _ _ _ _ _)]
      dsimp only
      rcases hc with hc | hc | hc <;> rw [hc]
      · exact end410 ws _
      · exact end411 ws _
      · exact end412 ws _
    · refine bnd_of (a := Fl.rt (.bool true)) (n' := n + 1 + 1 + 1) ?_
      refine (seq_assoc5 _ _ _ _ _ _ _ _ _ (mid42 ws (n + 1 + 1))).trans ?_
      rw [e_Seq, bnd_of (s6_eq hd (n + 1 + 1) _ _ _ _ _)]
      dsimp only
      rcases hc with hc | hc | hc <;> rw [hc]
      · exact end420 ws _
      · exact end421 ws _
      · exact end422 ws _
    · refine bnd_of (a := Fl.rt (.bool true)) (n' := n + 1 + 1 + 1) ?_
      refine (seq_assoc5 _ _ _ _ _ _ _ _ _ (mid43 ws (n + 1 + 1))).trans ?_
      rw [e_Seq, bnd_of (s6_eq hd (n + 1 + 1) _ _ _ _ _)]
      dsimp only
      rcases hc with hc | hc | hc <;> rw [hc]
      · exact end430 ws _
      · exact end431 ws _
      · exact end432 ws _
    · refine bnd_of (a := Fl.rt (.bool true)) (n' := n + 1 + 1 + 1) ?_
      refine (seq_assoc5 _ _ _ _ _ _ _ _ _ (mid44 ws (n + 1 + 1))).trans ?_
      rw [e_Seq, bnd_of (s6_eq hd (n + 1 + 1) _ _ _ _ _)]
      dsimp only
      rcases hc with hc | hc | hc <;> rw [hc]
      · exact end440 ws _
      · exact end441 ws _
      · exact end442 ws _
end LK

namespace LK
open PySem PySem.Spec PyProof.Rows L2 DL
def topS (i : Nat) : Stmt := PySem.Challenge.pw_daysworn_k18_whole_known_lessons_in_few.main.body.getD i (.Pass ⟨0, 0, 0, 0⟩)
def clsB : Stmt → List Stmt
  | .ClassDef (body := b) .. => b
  | _ => []
abbrev s_is_number : Stmt := topS 1
abbrev s_is_tuple_of : Stmt := topS 2
abbrev s_are_numbers : Stmt := topS 3
abbrev s_fewest_hours : Stmt := topS 5
abbrev s_is_timetable : Stmt := topS 6
abbrev s_lesson_at : Stmt := (clsB (topS 7)).getD 1 (.Pass ⟨0, 0, 0, 0⟩)
abbrev s_free_hour : Stmt := (clsB (topS 7)).getD 2 (.Pass ⟨0, 0, 0, 0⟩)
abbrev s_row_from : Stmt := (clsB (topS 7)).getD 3 (.Pass ⟨0, 0, 0, 0⟩)
abbrev s_turn : Stmt := (clsB (topS 7)).getD 4 (.Pass ⟨0, 0, 0, 0⟩)
abbrev s_lay : Stmt := (clsB (topS 7)).getD 5 (.Pass ⟨0, 0, 0, 0⟩)
abbrev s_sizes : Stmt := (clsB (topS 7)).getD 6 (.Pass ⟨0, 0, 0, 0⟩)
abbrev s_whole_row : Stmt := (clsB (topS 7)).getD 9 (.Pass ⟨0, 0, 0, 0⟩)
abbrev s_longer_row : Stmt := (clsB (topS 7)).getD 8 (.Pass ⟨0, 0, 0, 0⟩)
abbrev s_even_out : Stmt := (clsB (topS 7)).getD 7 (.Pass ⟨0, 0, 0, 0⟩)
abbrev s_with_hours : Stmt := topS 8
abbrev s_timetable : Stmt := topS 9
abbrev s__law_draws : Stmt := topS 11
abbrev s__law_next : Stmt := topS 12
abbrev s__law_holds : Stmt := topS 13
abbrev s_law : Stmt := topS 14
abbrev s___init__ : Stmt := (clsB (topS 7)).getD 0 (.Pass ⟨0, 0, 0, 0⟩)
theorem sc___init__ : FnScope ["self", "lessons", "many"] ["self", "lessons", "many"] (defScope s___init__) := ⟨rfl, rfl, rfl, by decide +kernel, rfl, by decide +kernel, by decide +kernel⟩
theorem sc_is_number : FnScope n_is_number ["thing"] (defScope s_is_number) := ⟨rfl, rfl, rfl, by decide +kernel, rfl, by decide +kernel, by decide +kernel⟩
theorem sc_is_tuple_of : FnScope n_is_tuple_of ["thing", "many"] (defScope s_is_tuple_of) := ⟨rfl, rfl, rfl, by decide +kernel, rfl, by decide +kernel, by decide +kernel⟩
theorem sc_are_numbers : FnScope n_are_numbers ["thing"] (defScope s_are_numbers) := ⟨rfl, rfl, rfl, by decide +kernel, rfl, by decide +kernel, by decide +kernel⟩
theorem sc_fewest_hours : FnScope n_fewest_hours ["lessons"] (defScope s_fewest_hours) := ⟨rfl, rfl, rfl, by decide +kernel, rfl, by decide +kernel, by decide +kernel⟩
theorem sc_is_timetable : FnScope n_is_timetable ["lessons", "hours"] (defScope s_is_timetable) := ⟨rfl, rfl, rfl, by decide +kernel, rfl, by decide +kernel, by decide +kernel⟩
theorem sc_lesson_at : FnScope n_lesson_at ["self", "side", "name", "hour"] (defScope s_lesson_at) := ⟨rfl, rfl, rfl, by decide +kernel, rfl, by decide +kernel, by decide +kernel⟩
theorem sc_free_hour : FnScope n_free_hour ["self", "side", "name"] (defScope s_free_hour) := ⟨rfl, rfl, rfl, by decide +kernel, rfl, by decide +kernel, by decide +kernel⟩
theorem sc_row_from : FnScope n_row_from ["self", "side", "name", "hour", "other"] (defScope s_row_from) := ⟨rfl, rfl, rfl, by decide +kernel, rfl, by decide +kernel, by decide +kernel⟩
theorem sc_turn : FnScope n_turn ["self", "row", "one", "other"] (defScope s_turn) := ⟨rfl, rfl, rfl, by decide +kernel, rfl, by decide +kernel, by decide +kernel⟩
theorem sc_lay : FnScope n_lay ["self", "k"] (defScope s_lay) := ⟨rfl, rfl, rfl, by decide +kernel, rfl, by decide +kernel, by decide +kernel⟩
theorem sc_sizes : FnScope n_sizes ["self"] (defScope s_sizes) := ⟨rfl, rfl, rfl, by decide +kernel, rfl, by decide +kernel, by decide +kernel⟩
theorem sc_whole_row : FnScope n_whole_row ["self", "k", "one", "other"] (defScope s_whole_row) := ⟨rfl, rfl, rfl, by decide +kernel, rfl, by decide +kernel, by decide +kernel⟩
theorem sc_longer_row : FnScope n_longer_row ["self", "one", "other"] (defScope s_longer_row) := ⟨rfl, rfl, rfl, by decide +kernel, rfl, by decide +kernel, by decide +kernel⟩
theorem sc_even_out : FnScope n_even_out ["self"] (defScope s_even_out) := ⟨rfl, rfl, rfl, by decide +kernel, rfl, by decide +kernel, by decide +kernel⟩
theorem sc_with_hours : FnScope n_with_hours ["lessons", "many"] (defScope s_with_hours) := ⟨rfl, rfl, rfl, by decide +kernel, rfl, by decide +kernel, by decide +kernel⟩
theorem sc_timetable : FnScope n_timetable ["lessons"] (defScope s_timetable) := ⟨rfl, rfl, rfl, by decide +kernel, rfl, by decide +kernel, by decide +kernel⟩
theorem sc__law_draws : FnScope n__law_draws ["script", "many"] (defScope s__law_draws) := ⟨rfl, rfl, rfl, by decide +kernel, rfl, by decide +kernel, by decide +kernel⟩
theorem sc__law_next : FnScope n__law_next ["w", "many"] (defScope s__law_next) := ⟨rfl, rfl, rfl, by decide +kernel, rfl, by decide +kernel, by decide +kernel⟩
theorem sc__law_holds : FnScope n__law_holds ["w"] (defScope s__law_holds) := ⟨rfl, rfl, rfl, by decide +kernel, rfl, by decide +kernel, by decide +kernel⟩
section
variable {P : Program} {w : World} {K : PySem.W.Frag} {mg : Str → Option Value} {base : Heap}
theorem ok___init__ {f : Addr} {fd : FuncData} (cT : TabC K) (F : Fun K "__init__" "Table.__init__" s___init__ f fd) (hb : ∀ x : Str, x ∈ blt → mg x = none) : FnOk P w K mg base CX0 1 f fd ["self", "lessons", "many"] (SpI K) :=
  init_ok cT F sc___init__ fun cdv A outer s H E hr => pss_cons (ps_fld (pv 0) (pv 1) rfl) (pss_cons (ps_fld (pv 0) (pv 2) rfl) (pss_one (ps_fld (pv 0) (pe_op op_rep (pe_lst (pa_cons pe_non pa_nil)) (pe_callB call_len_seq (by rfl) (hb "len" (by decide)) (by decide +kernel) (pa_cons (pv 1) pa_nil))) rfl)))
set_option maxHeartbeats 8000000 in
theorem ok_is_number {f : Addr} {fd : FuncData} (F : Fun K "is_number" "is_number" s_is_number f fd) (hb : ∀ x : Str, x ∈ blt → mg x = none) : FnOk P w K mg base CX0 1 f fd ["thing"] (SpP K 1 f_is_number) :=
  fn_ok (k := 0) (m := b_is_number) (N := n_is_number) (ps := ["thing"]) (nn := 1) (kk := 1) F sc_is_number rfl rfl fun cdv A outer s H E hr =>
  (dss_one (ds_ret (de_and (de_isi kit_int (pe_callB call_isi (by rfl) (hb "isinstance" (by decide)) (by decide +kernel) (pa_cons (de_var (pv 0)) (pa_cons (pe_bltn (by rfl) (hb "int" (by decide)) (by decide +kernel) rfl) pa_nil)))) (de_one (de_not (de_isi kit_bool (pe_callB call_isi (by rfl) (hb "isinstance" (by decide)) (by decide +kernel) (pa_cons (de_var (pv 0)) (pa_cons (pe_bltn (by rfl) (hb "bool" (by decide)) (by decide +kernel) rfl) pa_nil)))))))))
set_option maxHeartbeats 8000000 in
theorem ok_is_tuple_of {f : Addr} {fd : FuncData} (F : Fun K "is_tuple_of" "is_tuple_of" s_is_tuple_of f fd) (hb : ∀ x : Str, x ∈ blt → mg x = none) : FnOk P w K mg base CX0 1 f fd ["thing", "many"] (SpP K 2 f_is_tuple_of) :=
  fn_ok (k := 0) (m := b_is_tuple_of) (N := n_is_tuple_of) (ps := ["thing", "many"]) (nn := 2) (kk := 2) F sc_is_tuple_of rfl rfl fun cdv A outer s H E hr =>
  (dss_one (ds_ret (de_and (de_isi kit_tuple (pe_callB call_isi (by rfl) (hb "isinstance" (by decide)) (by decide +kernel) (pa_cons (de_var (pv 0)) (pa_cons (pe_bltn (by rfl) (hb "tuple" (by decide)) (by decide +kernel) rfl) pa_nil)))) (de_one (de_cmp (op_eqD hr.units) r_eq (le_of (de_cb (pe_callB call_len_seq (by rfl) (hb "len" (by decide)) (by decide +kernel) (la_cons (le_of (de_var (pv 0))) la_nil)) r_len)) (le_of (de_var (pv 1))) (nomark _))))))
set_option maxHeartbeats 8000000 in
theorem ok_are_numbers {f : Addr} {fd : FuncData} (F : Fun K "are_numbers" "are_numbers" s_are_numbers f fd) (hb : ∀ x : Str, x ∈ blt → mg x = none) (C_is_number : Cal P w K mg base 1 "is_number" (SpP K 1 f_is_number)) : FnOk P w K mg base CX0 2 f fd ["thing"] (SpP K 1 f_are_numbers) :=
  fn_ok (k := 1) (m := b_are_numbers) (N := n_are_numbers) (ps := ["thing"]) (nn := 2) (kk := 1) F sc_are_numbers rfl rfl fun cdv A outer s H E hr =>
  (dss_one (ds_ret (de_and (de_isi kit_tuple (pe_callB call_isi (by rfl) (hb "isinstance" (by decide)) (by decide +kernel) (pa_cons (de_var (pv 0)) (pa_cons (pe_bltn (by rfl) (hb "tuple" (by decide)) (by decide +kernel) rfl) pa_nil)))) (de_one (de_cb (pe_callB (cr_all rfl) (by rfl) (hb "all" (by decide)) (by decide +kernel) (la_cons (le_of (de_of_fe (fe_lc (pe_lc (own := [("one", 1)]) rfl sc_are_numbers.nd (di_tup (de_var (pv 0))) (blkOk_by (N := n_are_numbers) (sc := (defScope s_are_numbers)) (by decide +kernel)) (fun _ _ _ _ _ => (dg_name (pg_name (i := 1) sc_are_numbers.nd rfl (.inl rfl)))) (fun _ _ _ _ _ => dts_nil) (fun _ _ _ _ _ => (de_call (pe_cal C_is_number hr (by decide) (by rfl) (da_cons (de_var (pv 1)) da_nil)) (aCons_len (fun _ _ _ _ h => aNil_len h)))))))) la_nil)) r_all)))))
set_option maxHeartbeats 8000000 in
theorem ok_fewest_hours {f : Addr} {fd : FuncData} (F : Fun K "fewest_hours" "fewest_hours" s_fewest_hours f fd) (hb : ∀ x : Str, x ∈ blt → mg x = none) : FnOk P w K mg base CX0 1 f fd ["lessons"] (SpP K 1 f_fewest_hours) :=
  fn_ok (k := 0) (m := b_fewest_hours) (N := n_fewest_hours) (ps := ["lessons"]) (nn := 6) (kk := 1) F sc_fewest_hours rfl rfl fun cdv A outer s H E hr =>
  (dss_cons (ds_asg (p := (.tp [(.nm 1), (.nm 2)])) (ps_asg (de_tup (da_cons (de_of_fe (fe_lc (pe_lc (own := [("one", 3), ("_", 4)]) rfl sc_fewest_hours.nd (di_tup (de_var (pv 0))) (blkOk_by (N := n_fewest_hours) (sc := (defScope s_fewest_hours)) (by decide +kernel)) (fun _ _ _ _ _ => (dg_tup (ps := [(.nm 3), (.nm 4)]) rfl (dgs_cons (dg_name (pg_name (i := 3) sc_fewest_hours.nd rfl (.inl rfl))) (dgs_cons (dg_name (pg_name (i := 4) sc_fewest_hours.nd rfl (.inl rfl))) dgs_nil)))) (fun _ _ _ _ _ => dts_nil) (fun _ _ _ _ _ => (de_var (pv 3)))))) (da_cons (de_of_fe (fe_lc (pe_lc (own := [("_", 4), ("other", 5)]) rfl sc_fewest_hours.nd (di_tup (de_var (pv 0))) (blkOk_by (N := n_fewest_hours) (sc := (defScope s_fewest_hours)) (by decide +kernel)) (fun _ _ _ _ _ => (dg_tup (ps := [(.nm 4), (.nm 5)]) rfl (dgs_cons (dg_name (pg_name (i := 4) sc_fewest_hours.nd rfl (.inl rfl))) (dgs_cons (dg_name (pg_name (i := 5) sc_fewest_hours.nd rfl (.inl rfl))) dgs_nil)))) (fun _ _ _ _ _ => dts_nil) (fun _ _ _ _ _ => (de_var (pv 5)))))) da_nil))) (dg_tup (ps := [(.nm 1), (.nm 2)]) rfl (dgs_cons (dg_name (pg_name (i := 1) sc_fewest_hours.nd rfl (.inr rfl))) (dgs_cons (dg_name (pg_name (i := 2) sc_fewest_hours.nd rfl (.inr rfl))) dgs_nil)))))
  (dss_one (ds_ret (de_cb (pe_callB (cr_max rfl) (by rfl) (hb "max" (by decide)) (by decide +kernel) (la_cons (le_of (de_of_fe (fe_op op_cat r_cat (le_of (de_of_fe (fe_op op_cat r_cat (le_of (de_of_fe (fe_lst (da_cons de_int da_nil)))) (le_of (de_of_fe (fe_lc (pe_lc (own := [("one", 3)]) rfl sc_fewest_hours.nd (di_list (de_var (pv 1))) (blkOk_by (N := n_fewest_hours) (sc := (defScope s_fewest_hours)) (by decide +kernel)) (fun _ _ _ _ _ => (dg_name (pg_name (i := 3) sc_fewest_hours.nd rfl (.inl rfl)))) (fun _ _ _ _ _ => dts_nil) (fun _ _ _ _ _ => (de_cnt (pe_bm PySem.F.plainAttrs_list PySem.F.slot_list_count PySem.F.type_list_count (mt_countL (hu65 hr)) (de_var (pv 1)) (pa_cons (de_var (pv 3)) pa_nil))))))))))) (le_of (de_of_fe (fe_lc (pe_lc (own := [("other", 5)]) rfl sc_fewest_hours.nd (di_list (de_var (pv 2))) (blkOk_by (N := n_fewest_hours) (sc := (defScope s_fewest_hours)) (by decide +kernel)) (fun _ _ _ _ _ => (dg_name (pg_name (i := 5) sc_fewest_hours.nd rfl (.inl rfl)))) (fun _ _ _ _ _ => dts_nil) (fun _ _ _ _ _ => (de_cnt (pe_bm PySem.F.plainAttrs_list PySem.F.slot_list_count PySem.F.type_list_count (mt_countL (hu65 hr)) (de_var (pv 2)) (pa_cons (de_var (pv 5)) pa_nil))))))))))) la_nil)) r_max1))))
set_option maxHeartbeats 8000000 in
theorem ok_is_timetable {f : Addr} {fd : FuncData} (F : Fun K "is_timetable" "is_timetable" s_is_timetable f fd) (hb : ∀ x : Str, x ∈ blt → mg x = none) (C_are_numbers : Cal P w K mg base 2 "are_numbers" (SpP K 1 f_are_numbers)) (C_is_tuple_of : Cal P w K mg base 1 "is_tuple_of" (SpP K 2 f_is_tuple_of)) : FnOk P w K mg base CX0 3 f fd ["lessons", "hours"] (SpP K 2 f_is_timetable) :=
  fn_ok (k := 2) (m := b_is_timetable) (N := n_is_timetable) (ps := ["lessons", "hours"]) (nn := 6) (kk := 2) F sc_is_timetable rfl rfl fun cdv A outer s H E hr =>
  (dss_cons (ds_if (dt_bool (dw_or (dt_not (dt_val (de_call (pe_cal C_is_tuple_of hr (by decide) (by rfl) (da_cons (de_var (pv 1)) (da_cons (de_cb (pe_callB call_len_seq (by rfl) (hb "len" (by decide)) (by decide +kernel) (la_cons (le_of (de_var (pv 0))) la_nil)) r_len) da_nil))) (aCons_len (aCons_len (fun _ _ _ _ h => aNil_len h)))))) (dw_or (dt_not (dt_val (de_call (pe_cal C_are_numbers hr (by decide) (by rfl) (da_cons (de_var (pv 1)) da_nil)) (aCons_len (fun _ _ _ _ h => aNil_len h))))) (dw_or1 (dt_not (dt_val (de_cb (pe_callB (cr_all rfl) (by rfl) (hb "all" (by decide)) (by decide +kernel) (la_cons (le_of (de_of_fe (fe_lc (pe_lc (own := [("hour", 5)]) rfl sc_is_timetable.nd (di_tup (de_var (pv 1))) (blkOk_by (N := n_is_timetable) (sc := (defScope s_is_timetable)) (by decide +kernel)) (fun _ _ _ _ _ => (dg_name (pg_name (i := 5) sc_is_timetable.nd rfl (.inl rfl)))) (fun _ _ _ _ _ => dts_nil) (fun _ _ _ _ _ => (de_cmp op_ge r_ge (le_of (de_var (pv 5))) (le_of de_int) (nomark _))))))) la_nil)) r_all))))))) (dss_one (ds_ret de_bl)) dss_nil)
  (dss_cons (ds_for (ps_for PassesOwn.never rfl (di_tup (de_tup (da_cons de_int (da_cons de_int da_nil)))) (dg_name (pg_name (i := 2) sc_is_timetable.nd rfl (.inr rfl))) (dss_cons (ds_asgLc (ps_setLc (own := [("k", 4)]) (i := 3) rfl sc_is_timetable.nd rfl rfl (sw_true rfl rfl rfl (by decide +kernel)) (di_range1 (pi_range1 (by rfl) (hb "range" (by decide)) (da_cons (de_cb (pe_callB call_len_seq (by rfl) (hb "len" (by decide)) (by decide +kernel) (la_cons (le_of (de_var (pv 0))) la_nil)) r_len) da_nil))) (blkOk_by (N := n_is_timetable) (sc := (defScope s_is_timetable)) (by decide +kernel)) (fun _ _ _ _ _ => (dg_name (pg_name (i := 4) sc_is_timetable.nd rfl (.inl rfl)))) (fun _ _ _ _ _ => dts_nil) (fun _ _ _ _ _ => (de_tup (da_cons (de_ix (le_of (de_ix (le_of (de_var (pv 0))) (le_of (de_var (pv 4))))) (le_of (de_var (pv 2)))) (da_cons (de_ix (le_of (de_var (pv 1))) (le_of (de_var (pv 4)))) da_nil))))))
  (dss_one (ds_if (dt_cmp (op_neD hr.units) r_ne (le_of (de_lenSetK (pe_callB cr_lenKeys (by rfl) (hb "len" (by decide)) (by decide +kernel) (pa_cons (pe_callTy (cr_setKeys rfl hr.units) (by rfl) (hb "set" (by decide)) (by decide +kernel) (pa_cons (le_of (de_var (pv 3))) pa_nil)) pa_nil)))) (le_of (de_cb (pe_callB call_len_seq (by rfl) (hb "len" (by decide)) (by decide +kernel) (la_cons (le_of (de_var (pv 3))) la_nil)) r_len)) (nomark _)) (dss_one (ds_ret de_bl)) dss_nil)))))
  (dss_one (ds_ret de_bl))))
set_option maxHeartbeats 8000000 in
theorem ok_lesson_at {f : Addr} {fd : FuncData} (F : Fun K "lesson_at" "Table.lesson_at" s_lesson_at f fd) (hb : ∀ x : Str, x ∈ blt → mg x = none) (cT : TabC K) : FnOk P w K mg base CX0 1 f fd ["self", "side", "name", "hour"] (SpW K 3 f_lesson_at) :=
  fnW_ok (k := 0) (m := b_lesson_at) (N := n_lesson_at) (ps := ["self", "side", "name", "hour"]) (nn := 5) (k2 := 3) F sc_lesson_at rfl rfl fun cdv A outer s H E hr =>
  (dss_cons (ds_for (ps_for PassesOwn.never rfl (di_range1 (pi_range1 (by rfl) (hb "range" (by decide)) (da_cons (de_cb (pe_callB call_len_seq (by rfl) (hb "len" (by decide)) (by decide +kernel) (la_cons (le_of (de_les cT (pe_fld (pv 0) rfl))) la_nil)) r_len) da_nil))) (dg_name (pg_name (i := 4) sc_lesson_at.nd rfl (.inl rfl))) (dss_one (ds_if (dt_bool (dw_and (dt_cmp (op_eqD hr.units) r_eq (le_of (de_ix (le_of (de_ix (le_of (de_les cT (pe_fld (pv 0) rfl))) (le_of (de_var (pv 4))))) (le_of (de_var (pv 1))))) (le_of (de_var (pv 2))) (nomark _)) (dw_and1 (dt_cmp (op_eqD hr.units) r_eq (le_of (de_hr cT (pe_ix ix_list (pe_fld (pv 0) rfl) (de_var (pv 4)) (fun _ _ => rfl)))) (le_of (de_var (pv 3))) (nomark _))))) (dss_one (ds_ret (de_var (pv 4)))) dss_nil))))
  (dss_one (ds_ret de_non)))
set_option maxHeartbeats 8000000 in
theorem ok_free_hour {f : Addr} {fd : FuncData} (F : Fun K "free_hour" "Table.free_hour" s_free_hour f fd) (hb : ∀ x : Str, x ∈ blt → mg x = none) (cT : TabC K) (M_lesson_at : Met P w K mg base 1 "lesson_at" (SpW K 3 f_lesson_at)) : FnOk P w K mg base CX0 2 f fd ["self", "side", "name"] (SpW K 2 f_free_hour) :=
  fnW_ok (k := 1) (m := b_free_hour) (N := n_free_hour) (ps := ["self", "side", "name"]) (nn := 4) (k2 := 2) F sc_free_hour rfl rfl fun cdv A outer s H E hr =>
  (dss_one (ds_ret (de_ix (le_of (de_of_fe (fe_lc (pe_lc (own := [("hour", 3)]) rfl sc_free_hour.nd (di_range1 (pi_range1 (by rfl) (hb "range" (by decide)) (da_cons (de_many cT (pe_fld (pv 0) rfl)) da_nil))) (blkOk_by (N := n_free_hour) (sc := (defScope s_free_hour)) (by decide +kernel)) (fun _ _ _ _ _ => (dg_name (pg_name (i := 3) sc_free_hour.nd rfl (.inl rfl)))) (fun _ _ _ _ _ => (dts_one (dt_cmp op_isN r_is (le_of (de_callM (pe_met cT M_lesson_at hr (by decide) (pv 0) (da_cons (de_var (pv 1)) (da_cons (de_var (pv 2)) (da_cons (de_var (pv 3)) da_nil)))) (aCons_len (aCons_len (aCons_len (fun _ _ _ _ h => aNil_len h)))))) (le_of de_non) (nomark _)))) (fun _ _ _ _ _ => (de_var (pv 3))))))) (le_of de_int))))
set_option maxHeartbeats 8000000 in
theorem ok_row_from {f : Addr} {fd : FuncData} (F : Fun K "row_from" "Table.row_from" s_row_from f fd) (hb : ∀ x : Str, x ∈ blt → mg x = none) (cT : TabC K) (M_lesson_at : Met P w K mg base 1 "lesson_at" (SpW K 3 f_lesson_at)) : FnOk P w K mg base CX0 2 f fd ["self", "side", "name", "hour", "other"] (SpW K 4 f_row_from) :=
  fnW_ok (k := 1) (m := b_row_from) (N := n_row_from) (ps := ["self", "side", "name", "hour", "other"]) (nn := 7) (k2 := 4) F sc_row_from rfl rfl fun cdv A outer s H E hr =>
  (dss_cons (ds_asgF (ps_set (i := 5) sc_row_from.nd rfl (.inl rfl) (fe_lst da_nil)))
  (dss_cons (ds_asg (p := .nm 6) (ps_set (i := 6) sc_row_from.nd rfl (.inl rfl) (de_callM (pe_met cT M_lesson_at hr (by decide) (pv 0) (da_cons (de_var (pv 1)) (da_cons (de_var (pv 2)) (da_cons (de_var (pv 3)) da_nil)))) (aCons_len (aCons_len (aCons_len (fun _ _ _ _ h => aNil_len h)))))))
  (dss_cons (ds_while (fuel := 1000) (ps_while PassesOwn.never (dt_cmp op_notN r_isnt (le_of (de_var (pv 6))) (le_of de_non) (nomark _)) (dss_cons (ds_app (ps_expr (pe_bm PySem.F.plainAttrs_list PySem.F.slot_list_append PySem.F.type_list_append mt_append (pv 5) (pa_cons (de_var (pv 6)) pa_nil))))
  (dss_cons (ds_asg (p := .nm 1) (ps_set (i := 1) sc_row_from.nd rfl (.inl rfl) (de_op op_sub r_sub (le_of de_int) (le_of (de_var (pv 1))))))
  (dss_cons (ds_par (ps_par (i := 3) (j := 4) rfl sc_row_from.nd rfl rfl (by decide) rfl rfl (da_cons (de_var (pv 4)) (da_cons (de_var (pv 3)) da_nil)) rfl))
  (dss_one (ds_asg (p := .nm 6) (ps_set (i := 6) sc_row_from.nd rfl (.inl rfl) (de_callM (pe_met cT M_lesson_at hr (by decide) (pv 0) (da_cons (de_var (pv 1)) (da_cons (de_ix (le_of (de_ix (le_of (de_les cT (pe_fld (pv 0) rfl))) (le_of (de_var (pv 6))))) (le_of (de_var (pv 1)))) (da_cons (de_var (pv 3)) da_nil)))) (aCons_len (aCons_len (aCons_len (fun _ _ _ _ h => aNil_len h)))))))))))))
  (dss_one (ds_frz (ds_ret (de_var (pv 5))))))))
set_option maxHeartbeats 8000000 in
theorem ok_turn {f : Addr} {fd : FuncData} (F : Fun K "turn" "Table.turn" s_turn f fd) (hb : ∀ x : Str, x ∈ blt → mg x = none) (cT : TabC K) : FnOk P w K mg base CX0 1 f fd ["self", "row", "one", "other"] (SpW K 3 f_turn) :=
  fnW_ok (k := 0) (m := b_turn) (N := n_turn) (ps := ["self", "row", "one", "other"]) (nn := 5) (k2 := 3) F sc_turn rfl rfl fun cdv A outer s H E hr =>
  (dss_one (ds_for (ps_for PassesOwn.never rfl (di_list (de_var (pv 1))) (dg_name (pg_name (i := 4) sc_turn.nd rfl (.inl rfl))) (dss_one (ds_hr cT (ps_asg (de_if (dt_cmp (op_eqD hr.units) r_eq (le_of (de_hr cT (pe_ix ix_list (pe_fld (pv 0) rfl) (de_var (pv 4)) (fun _ _ => rfl)))) (le_of (de_var (pv 2))) (nomark _)) (de_var (pv 3)) (de_var (pv 2))) (pg_sub (pe_fld (pv 0) rfl) (de_var (pv 4)) set_list)))))))
set_option maxHeartbeats 8000000 in
theorem ok_lay {f : Addr} {fd : FuncData} (F : Fun K "lay" "Table.lay" s_lay f fd) (hb : ∀ x : Str, x ∈ blt → mg x = none) (cT : TabC K) (M_free_hour : Met P w K mg base 2 "free_hour" (SpW K 2 f_free_hour)) (M_lesson_at : Met P w K mg base 1 "lesson_at" (SpW K 3 f_lesson_at)) (M_row_from : Met P w K mg base 2 "row_from" (SpW K 4 f_row_from)) (M_turn : Met P w K mg base 1 "turn" (SpW K 3 f_turn)) : FnOk P w K mg base CX0 3 f fd ["self", "k"] (SpW K 1 f_lay) :=
  fnW_ok (k := 2) (m := b_lay) (N := n_lay) (ps := ["self", "k"]) (nn := 6) (k2 := 1) F sc_lay rfl rfl fun cdv A outer s H E hr =>
  (dss_cons (ds_asg (p := (.tp [(.nm 2), (.nm 3)])) (ps_asg (de_ix (le_of (de_les cT (pe_fld (pv 0) rfl))) (le_of (de_var (pv 1)))) (dg_tup (ps := [(.nm 2), (.nm 3)]) rfl (dgs_cons (dg_name (pg_name (i := 2) sc_lay.nd rfl (.inl rfl))) (dgs_cons (dg_name (pg_name (i := 3) sc_lay.nd rfl (.inl rfl))) dgs_nil)))))
  (dss_cons (ds_par (ps_par (i := 4) (j := 5) rfl sc_lay.nd rfl rfl (by decide) rfl rfl (da_cons (de_callM (pe_met cT M_free_hour hr (by decide) (pv 0) (da_cons de_int (da_cons (de_var (pv 2)) da_nil))) (aCons_len (aCons_len (fun _ _ _ _ h => aNil_len h)))) (da_cons (de_callM (pe_met cT M_free_hour hr (by decide) (pv 0) (da_cons de_int (da_cons (de_var (pv 3)) da_nil))) (aCons_len (aCons_len (fun _ _ _ _ h => aNil_len h)))) da_nil)) rfl))
  (dss_cons (ds_if (dt_cmp op_notN r_isnt (le_of (de_callM (pe_met cT M_lesson_at hr (by decide) (pv 0) (da_cons de_int (da_cons (de_var (pv 3)) (da_cons (de_var (pv 4)) da_nil)))) (aCons_len (aCons_len (aCons_len (fun _ _ _ _ h => aNil_len h)))))) (le_of de_non) (nomark _)) (dss_one (ds_drop (de_callM (pe_met cT M_turn hr (by decide) (pv 0) (da_cons (de_callM (pe_met cT M_row_from hr (by decide) (pv 0) (da_cons de_int (da_cons (de_var (pv 3)) (da_cons (de_var (pv 4)) (da_cons (de_var (pv 5)) da_nil))))) (aCons_len (aCons_len (aCons_len (aCons_len (fun _ _ _ _ h => aNil_len h)))))) (da_cons (de_var (pv 4)) (da_cons (de_var (pv 5)) da_nil)))) (aCons_len (aCons_len (aCons_len (fun _ _ _ _ h => aNil_len h))))))) dss_nil)
  (dss_one (ds_hr cT (ps_asg (de_var (pv 4)) (pg_sub (pe_fld (pv 0) rfl) (de_var (pv 1)) set_list)))))))
set_option maxHeartbeats 8000000 in
theorem ok_sizes {f : Addr} {fd : FuncData} (F : Fun K "sizes" "Table.sizes" s_sizes f fd) (hb : ∀ x : Str, x ∈ blt → mg x = none) (cT : TabC K) : FnOk P w K mg base CX0 1 f fd ["self"] (SpW K 0 f_sizes) :=
  fnW_ok (k := 0) (m := b_sizes) (N := n_sizes) (ps := ["self"]) (nn := 2) (k2 := 0) F sc_sizes rfl rfl fun cdv A outer s H E hr =>
  (dss_one (ds_ret (de_of_fe (fe_lc (pe_lc (own := [("hour", 1)]) rfl sc_sizes.nd (di_range1 (pi_range1 (by rfl) (hb "range" (by decide)) (da_cons (de_many cT (pe_fld (pv 0) rfl)) da_nil))) (blkOk_by (N := n_sizes) (sc := (defScope s_sizes)) (by decide +kernel)) (fun _ _ _ _ _ => (dg_name (pg_name (i := 1) sc_sizes.nd rfl (.inl rfl)))) (fun _ _ _ _ _ => dts_nil) (fun _ _ _ _ _ => (de_hrCnt cT (pe_bm PySem.F.plainAttrs_list PySem.F.slot_list_count PySem.F.type_list_count (mt_countL (hu65 hr)) (pe_fld (pv 0) rfl) (pa_cons (de_var (pv 1)) pa_nil)))))))))
set_option maxHeartbeats 8000000 in
theorem ok_whole_row {f : Addr} {fd : FuncData} (F : Fun K "whole_row" "Table.whole_row" s_whole_row f fd) (hb : ∀ x : Str, x ∈ blt → mg x = none) (cT : TabC K) (M_lesson_at : Met P w K mg base 1 "lesson_at" (SpW K 3 f_lesson_at)) : FnOk P w K mg base CX0 2 f fd ["self", "k", "one", "other"] (SpW K 3 f_whole_row) :=
  fnW_ok (k := 1) (m := b_whole_row) (N := n_whole_row) (ps := ["self", "k", "one", "other"]) (nn := 10) (k2 := 3) F sc_whole_row rfl rfl fun cdv A outer s H E hr =>
  (dss_cons (ds_asgF (ps_set (i := 4) sc_whole_row.nd rfl (.inl rfl) (fe_lst (da_cons (de_var (pv 1)) da_nil))))
  (dss_cons (ds_asg (p := .nm 5) (ps_set (i := 5) sc_whole_row.nd rfl (.inl rfl) de_int))
  (dss_cons (ds_while (fuel := 1000) (ps_while PassesOwn.never (dt_cmp op_lt r_lt (le_of (de_var (pv 5))) (le_of (de_cb (pe_callB call_len_seq (by rfl) (hb "len" (by decide)) (by decide +kernel) (la_cons (le_var (pv 4)) la_nil)) r_len)) (nomark _)) (dss_cons (ds_asg (p := .nm 6) (ps_set (i := 6) sc_whole_row.nd rfl (.inl rfl) (de_ix (le_var (pv 4)) (le_of (de_var (pv 5))))))
  (dss_cons (ds_for (ps_for PassesOwn.never rfl (di_tup (de_tup (da_cons de_int (da_cons de_int da_nil)))) (dg_name (pg_name (i := 7) sc_whole_row.nd rfl (.inl rfl))) (dss_cons (ds_asg (p := .nm 8) (ps_set (i := 8) sc_whole_row.nd rfl (.inl rfl) (de_if (dt_cmp (op_eqD hr.units) r_eq (le_of (de_hr cT (pe_ix ix_list (pe_fld (pv 0) rfl) (de_var (pv 6)) (fun _ _ => rfl)))) (le_of (de_var (pv 2))) (nomark _)) (de_var (pv 3)) (de_var (pv 2)))))
  (dss_cons (ds_asg (p := .nm 9) (ps_set (i := 9) sc_whole_row.nd rfl (.inl rfl) (de_callM (pe_met cT M_lesson_at hr (by decide) (pv 0) (da_cons (de_var (pv 7)) (da_cons (de_ix (le_of (de_ix (le_of (de_les cT (pe_fld (pv 0) rfl))) (le_of (de_var (pv 6))))) (le_of (de_var (pv 7)))) (da_cons (de_var (pv 8)) da_nil)))) (aCons_len (aCons_len (aCons_len (fun _ _ _ _ h => aNil_len h)))))))
  (dss_one (ds_if (dt_bool (dw_and (dt_cmp op_notN r_isnt (le_of (de_var (pv 9))) (le_of de_non) (nomark _)) (dw_and1 (dt_cmp op_notIn_seq r_notIn (le_of (de_var (pv 9))) (le_var (pv 4)) rfl)))) (dss_one (ds_app (ps_expr (pe_bm PySem.F.plainAttrs_list PySem.F.slot_list_append PySem.F.type_list_append mt_append (pv 4) (pa_cons (de_var (pv 9)) pa_nil))))) dss_nil))))))
  (dss_one (ds_aug (ps_aug (i := 5) sc_whole_row.nd rfl (.inl rfl) de_int ip_add)))))))
  (dss_one (ds_frz (ds_ret (de_var (pv 4))))))))
set_option maxHeartbeats 8000000 in
theorem ok_longer_row {f : Addr} {fd : FuncData} (F : Fun K "longer_row" "Table.longer_row" s_longer_row f fd) (hb : ∀ x : Str, x ∈ blt → mg x = none) (cT : TabC K) (M_whole_row : Met P w K mg base 2 "whole_row" (SpW K 3 f_whole_row)) : FnOk P w K mg base CX0 3 f fd ["self", "one", "other"] (SpW K 2 f_longer_row) :=
  fnW_ok (k := 2) (m := b_longer_row) (N := n_longer_row) (ps := ["self", "one", "other"]) (nn := 7) (k2 := 2) F sc_longer_row rfl rfl fun cdv A outer s H E hr =>
  (dss_cons (ds_newK (ps_set (i := 3) sc_longer_row.nd rfl (.inl rfl) pe_dnewK))
  (dss_cons (ds_for (ps_for PassesOwn.never rfl (di_range1 (pi_range1 (by rfl) (hb "range" (by decide)) (da_cons (de_cb (pe_callB call_len_seq (by rfl) (hb "len" (by decide)) (by decide +kernel) (la_cons (le_of (de_les cT (pe_fld (pv 0) rfl))) la_nil)) r_len) da_nil))) (dg_name (pg_name (i := 4) sc_longer_row.nd rfl (.inl rfl))) (dss_one (ds_if (dt_bool (dw_and (dt_cmp (op_eqD hr.units) r_eq (le_of (de_hr cT (pe_ix ix_list (pe_fld (pv 0) rfl) (de_var (pv 4)) (fun _ _ => rfl)))) (le_of (de_var (pv 1))) (nomark _)) (dw_and1 (dt_notInO (pt_cmp (pc_dnotin (hu_of hr) (de_var (pv 4)) (pv 3))))))) (dss_cons (ds_asg (p := .nm 5) (ps_set (i := 5) sc_longer_row.nd rfl (.inl rfl) (de_callM (pe_met cT M_whole_row hr (by decide) (pv 0) (da_cons (de_var (pv 4)) (da_cons (de_var (pv 1)) (da_cons (de_var (pv 2)) da_nil)))) (aCons_len (aCons_len (aCons_len (fun _ _ _ _ h => aNil_len h)))))))
  (dss_cons (ds_updD0 (ps_expr (pe_bm PySem.F.plainAttrs_dict PySem.F.slot_dict_update PySem.F.type_dict_update mt_dupdate (pv 3) (pa_cons (de_cb (pe_callTy (cr_dictP rfl) (by rfl) (hb "dict" (by decide)) (by decide +kernel) (la_cons (le_of (de_of_fe (fe_lc (pe_lc (own := [("lesson", 6)]) rfl sc_longer_row.nd (di_list (de_var (pv 5))) (blkOk_by (N := n_longer_row) (sc := (defScope s_longer_row)) (by decide +kernel)) (fun _ _ _ _ _ => (dg_name (pg_name (i := 6) sc_longer_row.nd rfl (.inl rfl)))) (fun _ _ _ _ _ => dts_nil) (fun _ _ _ _ _ => (de_tup (da_cons (de_var (pv 6)) (da_cons de_bl da_nil)))))))) la_nil)) r_dictP) pa_nil))))
  (dss_one (ds_if (dt_cmp op_gt r_gt (le_of (de_op op_mul r_mul (le_of de_int) (le_of (de_cb (pe_callB call_len_seq (by rfl) (hb "len" (by decide)) (by decide +kernel) (la_cons (le_of (de_of_fe (fe_lc (pe_lc (own := [("lesson", 6)]) rfl sc_longer_row.nd (di_list (de_var (pv 5))) (blkOk_by (N := n_longer_row) (sc := (defScope s_longer_row)) (by decide +kernel)) (fun _ _ _ _ _ => (dg_name (pg_name (i := 6) sc_longer_row.nd rfl (.inl rfl)))) (fun _ _ _ _ _ => (dts_one (dt_cmp (op_eqD hr.units) r_eq (le_of (de_hr cT (pe_ix ix_list (pe_fld (pv 0) rfl) (de_var (pv 6)) (fun _ _ => rfl)))) (le_of (de_var (pv 1))) (nomark _)))) (fun _ _ _ _ _ => (de_var (pv 6))))))) la_nil)) r_len)))) (le_of (de_cb (pe_callB call_len_seq (by rfl) (hb "len" (by decide)) (by decide +kernel) (la_cons (le_of (de_var (pv 5))) la_nil)) r_len)) (nomark _)) (dss_one (ds_ret (de_var (pv 5)))) dss_nil)))) dss_nil))))
  (dss_one (ds_ret (de_of_fe (fe_lst da_nil))))))
set_option maxHeartbeats 8000000 in
theorem ok_even_out {f : Addr} {fd : FuncData} (F : Fun K "even_out" "Table.even_out" s_even_out f fd) (hb : ∀ x : Str, x ∈ blt → mg x = none) (cT : TabC K) (M_longer_row : Met P w K mg base 3 "longer_row" (SpW K 2 f_longer_row)) (M_sizes : Met P w K mg base 1 "sizes" (SpW K 0 f_sizes)) (M_turn : Met P w K mg base 1 "turn" (SpW K 3 f_turn)) : FnOk P w K mg base CX0 4 f fd ["self"] (SpW K 0 f_even_out) :=
  fnW_ok (k := 3) (m := b_even_out) (N := n_even_out) (ps := ["self"]) (nn := 4) (k2 := 0) F sc_even_out rfl rfl fun cdv A outer s H E hr =>
  (dss_one (ds_while (fuel := 1000) (ps_while PassesOwn.never (dt_bool (dw_and (dt_cmp op_gt r_gt (le_of (de_many cT (pe_fld (pv 0) rfl))) (le_of de_int) (nomark _)) (dw_and1 (dt_cmp op_gt r_gt (le_of (de_op op_sub r_sub (le_of (de_cb (pe_callB (cr_max rfl) (by rfl) (hb "max" (by decide)) (by decide +kernel) (la_cons (le_of (de_callM0 (pe_met0 cT M_sizes hr (by decide) (pv 0)))) la_nil)) r_max1)) (le_of (de_cb (pe_callB (cr_min rfl) (by rfl) (hb "min" (by decide)) (by decide +kernel) (la_cons (le_of (de_callM0 (pe_met0 cT M_sizes hr (by decide) (pv 0)))) la_nil)) r_min1)))) (le_of de_int) (nomark _))))) (dss_cons (ds_asg (p := .nm 1) (ps_set (i := 1) sc_even_out.nd rfl (.inl rfl) (de_callM0 (pe_met0 cT M_sizes hr (by decide) (pv 0)))))
  (dss_cons (ds_par (ps_par (i := 2) (j := 3) rfl sc_even_out.nd rfl rfl (by decide) rfl rfl (da_cons (de_idx (pe_bm PySem.F.plainAttrs_list PySem.F.slot_list_index PySem.F.type_list_index (mt_indexD (hu65 hr)) (de_var (pv 1)) (pa_cons (de_cb (pe_callB (cr_max rfl) (by rfl) (hb "max" (by decide)) (by decide +kernel) (la_cons (le_of (de_var (pv 1))) la_nil)) r_max1) pa_nil))) (da_cons (de_idx (pe_bm PySem.F.plainAttrs_list PySem.F.slot_list_index PySem.F.type_list_index (mt_indexD (hu65 hr)) (de_var (pv 1)) (pa_cons (de_cb (pe_callB (cr_min rfl) (by rfl) (hb "min" (by decide)) (by decide +kernel) (la_cons (le_of (de_var (pv 1))) la_nil)) r_min1) pa_nil))) da_nil)) rfl))
  (dss_one (ds_drop (de_callM (pe_met cT M_turn hr (by decide) (pv 0) (da_cons (de_callM (pe_met cT M_longer_row hr (by decide) (pv 0) (da_cons (de_var (pv 2)) (da_cons (de_var (pv 3)) da_nil))) (aCons_len (aCons_len (fun _ _ _ _ h => aNil_len h)))) (da_cons (de_var (pv 2)) (da_cons (de_var (pv 3)) da_nil)))) (aCons_len (aCons_len (aCons_len (fun _ _ _ _ h => aNil_len h))))))))))))
set_option maxHeartbeats 8000000 in
theorem ok_with_hours {f : Addr} {fd : FuncData} (F : Fun K "with_hours" "with_hours" s_with_hours f fd) (hb : ∀ x : Str, x ∈ blt → mg x = none) (cT : TabC K) (MK : MakT P w K mg base) (M_even_out : Met P w K mg base 4 "even_out" (SpW K 0 f_even_out)) (M_lay : Met P w K mg base 3 "lay" (SpW K 1 f_lay)) : FnOk P w K mg base CX0 5 f fd ["lessons", "many"] (SpN K 2 f_with_hours) :=
  fnN_ok (k := 4) (m := b_with_hours) (N := n_with_hours) (ps := ["lessons", "many"]) (nn := 4) (kk := 2) F sc_with_hours rfl rfl fun cdv A outer s H E hr =>
  (dss_newN (ps_set (i := 2) sc_with_hours.nd rfl (.inl rfl) (pe_mkT MK hr (by decide) (by rfl) (da_cons (de_var (pv 0)) (da_cons (de_var (pv 1)) da_nil)))) (ds_for (ps_for PassesOwn.never rfl (di_range1 (pi_range1 (by rfl) (hb "range" (by decide)) (da_cons (de_cb (pe_callB call_len_seq (by rfl) (hb "len" (by decide)) (by decide +kernel) (la_cons (le_of (de_var (pv 0))) la_nil)) r_len) da_nil))) (dg_name (pg_name (i := 3) sc_with_hours.nd rfl (.inl rfl))) (dss_one (ds_drop (de_callM (pe_met cT M_lay hr (by decide) (pv 2) (da_cons (de_var (pv 3)) da_nil)) (aCons_len (fun _ _ _ _ h => aNil_len h))))))) (ds_drop (de_callM0 (pe_met0 cT M_even_out hr (by decide) (pv 2)))) (ds_retN cT (ps_ret (pe_callTy call_tupN (by rfl) (hb "tuple" (by decide)) (by decide +kernel) (pa_cons (pe_fld (pv 2) rfl) pa_nil)))))
set_option maxHeartbeats 8000000 in
theorem ok_timetable {f : Addr} {fd : FuncData} (F : Fun K "timetable" "timetable" s_timetable f fd) (hb : ∀ x : Str, x ∈ blt → mg x = none) (cT : TabC K) (MK : MakT P w K mg base) (M_lay : Met P w K mg base 3 "lay" (SpW K 1 f_lay)) (C_fewest_hours : Cal P w K mg base 1 "fewest_hours" (SpP K 1 f_fewest_hours)) : FnOk P w K mg base CX0 4 f fd ["lessons"] (SpP K 1 f_timetable) :=
  fn_ok (k := 3) (m := b_timetable) (N := n_timetable) (ps := ["lessons"]) (nn := 3) (kk := 1) F sc_timetable rfl rfl fun cdv A outer s H E hr =>
  (dss_new (ps_set (i := 1) sc_timetable.nd rfl (.inl rfl) (pe_mkT MK hr (by decide) (by rfl) (da_cons (de_var (pv 0)) (da_cons (de_call (pe_cal C_fewest_hours hr (by decide) (by rfl) (da_cons (de_var (pv 0)) da_nil)) (aCons_len (fun _ _ _ _ h => aNil_len h))) da_nil))))
  (dss_cons (ds_for (ps_for PassesOwn.never rfl (di_range1 (pi_range1 (by rfl) (hb "range" (by decide)) (da_cons (de_cb (pe_callB call_len_seq (by rfl) (hb "len" (by decide)) (by decide +kernel) (la_cons (le_of (de_var (pv 0))) la_nil)) r_len) da_nil))) (dg_name (pg_name (i := 2) sc_timetable.nd rfl (.inl rfl))) (dss_one (ds_drop (de_callM (pe_met cT M_lay hr (by decide) (pv 1) (da_cons (de_var (pv 2)) da_nil)) (aCons_len (fun _ _ _ _ h => aNil_len h)))))))
  (dss_one (ds_ret (de_hrT cT (pe_callTy call_tuple_of (by rfl) (hb "tuple" (by decide)) (by decide +kernel) (pa_cons (pe_fld (pv 1) rfl) pa_nil)))))))
set_option maxHeartbeats 8000000 in
theorem ok__law_draws {f : Addr} {fd : FuncData} (F : Fun K "_law_draws" "_law_draws" s__law_draws f fd) (hb : ∀ x : Str, x ∈ blt → mg x = none) : FnOk P w K mg base CX0 1 f fd ["script", "many"] (SpD K fDraws) :=
  fnD_ok (k := 0) (m := bDraws) (N := n__law_draws) (ps := ["script", "many"]) (nn := 8)  F sc__law_draws rfl rfl fun cdv A outer s H E hr =>
  (dss_cons (ds_asgF (ps_set (i := 2) sc__law_draws.nd rfl (.inl rfl) (fe_lst da_nil)))
  (dss_cons (ds_asg (p := .nm 3) (ps_set (i := 3) sc__law_draws.nd rfl (.inl rfl) de_int))
  (dss_cons (ds_for (ps_for PassesOwn.never rfl (di_range1 (pi_range1 (by rfl) (hb "range" (by decide)) (da_cons (de_lenS (pe_callB call_len_seq (by rfl) (hb "len" (by decide)) (by decide +kernel) (pa_cons (pv 0) pa_nil))) da_nil))) (dg_name (pg_name (i := 4) sc__law_draws.nd rfl (.inl rfl))) (dss_cons (ds_asg (p := .nm 5) (ps_set (i := 5) sc__law_draws.nd rfl (.inl rfl) (de_cb (pe_callB call_abs (by rfl) (hb "abs" (by decide)) (by decide +kernel) (la_cons (le_of (de_cb (pe_callTy call_int1 (by rfl) (hb "int" (by decide)) (by decide +kernel) (la_cons (le_of (de_ixS (pe_ix ix_list (pv 0) (de_var (pv 4)) (fun _ _ => rfl)))) la_nil)) r_int)) la_nil)) r_abs)))
  (dss_cons (ds_asg (p := .nm 3) (ps_set (i := 3) sc__law_draws.nd rfl (.inl rfl) (de_op op_mod r_mod (le_of (de_cb (pe_callTy call_int1 (by rfl) (hb "int" (by decide)) (by decide +kernel) (la_cons (le_of (de_op op_addA r_add (le_of (de_op op_addA r_add (le_of (de_op op_mul r_mul (le_of (de_var (pv 3))) (le_of de_int))) (le_of (de_op op_mod r_mod (le_of (de_var (pv 5))) (le_of de_int))))) (le_of (de_var (pv 4))))) la_nil)) r_int)) (le_of de_int))))
  (dss_cons (ds_asg (p := .nm 6) (ps_set (i := 6) sc__law_draws.nd rfl (.inl rfl) de_int))
  (dss_cons (ds_if (dt_cmp op_ge r_ge (le_of (de_var (pv 5))) (le_of (de_op op_pow r_pow (le_of de_int) (le_of de_int))) (nomark _)) (dss_one (ds_asg (p := .nm 6) (ps_set (i := 6) sc__law_draws.nd rfl (.inl rfl) (de_var (pv 5))))) (dss_cons (ds_app (ps_expr (pe_bm PySem.F.plainAttrs_list PySem.F.slot_list_append PySem.F.type_list_append mt_append (pv 2) (pa_cons (de_op op_mod r_mod (le_of (de_cb (pe_callTy call_int1 (by rfl) (hb "int" (by decide)) (by decide +kernel) (la_cons (le_of (de_var (pv 5))) la_nil)) r_int)) (le_of de_int)) pa_nil))))
  (dss_one (ds_app (ps_expr (pe_bm PySem.F.plainAttrs_list PySem.F.slot_list_append PySem.F.type_list_append mt_append (pv 2) (pa_cons (de_op op_mod r_mod (le_of (de_op op_mod r_mod (le_of (de_cb (pe_callTy call_int1 (by rfl) (hb "int" (by decide)) (by decide +kernel) (la_cons (le_of (de_op op_addA r_add (le_of (de_op op_mul r_mul (le_of (de_var (pv 3))) (le_of de_int))) (le_of de_int))) la_nil)) r_int)) (le_of de_int))) (le_of de_int)) pa_nil)))))))
  (dss_one (ds_for (ps_for PassesOwn.never rfl (di_range1 (pi_range1 (by rfl) (hb "range" (by decide)) (da_cons de_int da_nil))) (dg_name (pg_name (i := 7) sc__law_draws.nd rfl (.inl rfl))) (dss_one (ds_if (dt_cmp op_gt r_gt (le_of (de_var (pv 6))) (le_of de_int) (nomark _)) (dss_cons (ds_app (ps_expr (pe_bm PySem.F.plainAttrs_list PySem.F.slot_list_append PySem.F.type_list_append mt_append (pv 2) (pa_cons (de_op op_mod r_mod (le_of (de_cb (pe_callTy call_int1 (by rfl) (hb "int" (by decide)) (by decide +kernel) (la_cons (le_of (de_var (pv 6))) la_nil)) r_int)) (le_of de_int)) pa_nil))))
  (dss_one (ds_asg (p := .nm 6) (ps_set (i := 6) sc__law_draws.nd rfl (.inl rfl) (de_op op_fdiv r_fdiv (le_of (de_var (pv 6))) (le_of de_int)))))) dss_nil)))))))))))
  (dss_cons (ds_for (ps_for PassesOwn.never rfl (di_range1 (pi_range1 (by rfl) (hb "range" (by decide)) (da_cons (de_var (pv 1)) da_nil))) (dg_name (pg_name (i := 4) sc__law_draws.nd rfl (.inl rfl))) (dss_cons (ds_asg (p := .nm 3) (ps_set (i := 3) sc__law_draws.nd rfl (.inl rfl) (de_op op_mod r_mod (le_of (de_cb (pe_callTy call_int1 (by rfl) (hb "int" (by decide)) (by decide +kernel) (la_cons (le_of (de_op op_addA r_add (le_of (de_op op_addA r_add (le_of (de_op op_mul r_mul (le_of (de_var (pv 3))) (le_of de_int))) (le_of (de_var (pv 4))))) (le_of de_int))) la_nil)) r_int)) (le_of de_int))))
  (dss_one (ds_app (ps_expr (pe_bm PySem.F.plainAttrs_list PySem.F.slot_list_append PySem.F.type_list_append mt_append (pv 2) (pa_cons (de_op op_mod r_mod (le_of (de_cb (pe_callTy call_int1 (by rfl) (hb "int" (by decide)) (by decide +kernel) (la_cons (le_of (de_var (pv 3))) la_nil)) r_int)) (le_of de_int)) pa_nil))))))))
  (dss_one (ds_ret (de_of_fe (fe_slL (le_var (pv 2)) do_none (do_some (de_var (pv 1)))))))))))
set_option maxHeartbeats 8000000 in
theorem ok__law_next {f : Addr} {fd : FuncData} (F : Fun K "_law_next" "_law_next" s__law_next f fd) (hb : ∀ x : Str, x ∈ blt → mg x = none) : FnOk P w K mg base CX0 1 f fd ["w", "many"] (SpW K 1 fNext) :=
  fnW_ok (k := 0) (m := bNext) (N := n__law_next) (ps := ["w", "many"]) (nn := 2) (k2 := 1) F sc__law_next rfl rfl fun cdv A outer s H E hr =>
  (dss_cons (ds_inc (ps_daug (hu_of hr) (pv 0) pe_str pe_int in_add (fun _ _ _ => rfl)))
  (dss_cons (ds_if (dt_cmp op_gt r_gt (le_of (de_at (pe_dget (hu_of hr) (pv 0) pe_str (fun _ _ => rfl)))) (le_of (de_cb (pe_callB call_len_seq (by rfl) (hb "len" (by decide)) (by decide +kernel) (la_cons (le_of (de_dr (pe_dget (hu_of hr) (pv 0) pe_str (fun _ _ => rfl)))) la_nil)) r_len)) (nomark _)) (dss_one (ds_ret de_int)) dss_nil)
  (dss_one (ds_ret (de_op op_mod r_mod (le_of (de_cb (pe_callTy call_int1 (by rfl) (hb "int" (by decide)) (by decide +kernel) (la_cons (le_of (de_ix (le_of (de_dr (pe_dget (hu_of hr) (pv 0) pe_str (fun _ _ => rfl)))) (le_of (de_op op_sub r_sub (le_of (de_at (pe_dget (hu_of hr) (pv 0) pe_str (fun _ _ => rfl)))) (le_of de_int))))) la_nil)) r_int)) (le_of (de_var (pv 1))))))))
set_option maxHeartbeats 8000000 in
theorem ok__law_holds {f : Addr} {fd : FuncData} (F : Fun K "_law_holds" "_law_holds" s__law_holds f fd) (hb : ∀ x : Str, x ∈ blt → mg x = none) (C__law_next : Cal P w K mg base 1 "_law_next" (SpW K 1 fNext)) (C_fewest_hours : Cal P w K mg base 1 "fewest_hours" (SpP K 1 f_fewest_hours)) (C_is_timetable : Cal P w K mg base 3 "is_timetable" (SpP K 2 f_is_timetable)) (C_timetable : Cal P w K mg base 4 "timetable" (SpP K 1 f_timetable)) (C_with_hours : Cal P w K mg base 5 "with_hours" (SpN K 2 f_with_hours)) : FnOk P w K mg base CX0 6 f fd ["w"] (SpW K 0 f__law_holds) :=
  fnW_ok (k := 5) (m := b__law_holds) (N := n__law_holds) (ps := ["w"]) (nn := 11) (k2 := 0) F sc__law_holds rfl rfl fun cdv A outer s H E hr =>
  (dss_cons (ds_par (ps_par (i := 1) (j := 2) rfl sc__law_holds.nd rfl rfl (by decide) rfl rfl (da_cons (de_op op_addA r_add (le_of de_int) (le_of (de_callW (pe_cal C__law_next hr (by decide) (by rfl) (pa_cons (pv 0) (da_cons de_int da_nil))) (aCons_len (fun _ _ _ _ h => aNil_len h))))) (da_cons (de_op op_addA r_add (le_of de_int) (le_of (de_callW (pe_cal C__law_next hr (by decide) (by rfl) (pa_cons (pv 0) (da_cons de_int da_nil))) (aCons_len (fun _ _ _ _ h => aNil_len h))))) da_nil)) rfl))
  (dss_cons (ds_asg (p := .nm 3) (ps_set (i := 3) sc__law_holds.nd rfl (.inl rfl) (de_of_fe (fe_lst da_nil))))
  (dss_cons (ds_for (ps_for PassesOwn.never rfl (di_range1 (pi_range1 (by rfl) (hb "range" (by decide)) (da_cons (de_var (pv 1)) da_nil))) (dg_name (pg_name (i := 4) sc__law_holds.nd rfl (.inr rfl))) (dss_one (ds_asg (p := .nm 3) (ps_set (i := 3) sc__law_holds.nd rfl (.inl rfl) (de_of_fe (fe_op op_cat r_cat (le_of (de_var (pv 3))) (le_of (de_of_fe (fe_lc (pe_lc (own := [("j", 10)]) rfl sc__law_holds.nd (di_range1 (pi_range1 (by rfl) (hb "range" (by decide)) (da_cons (de_var (pv 2)) da_nil))) (blkOk_by (N := n__law_holds) (sc := (defScope s__law_holds)) (by decide +kernel)) (fun _ _ _ _ _ => (dg_name (pg_name (i := 10) sc__law_holds.nd rfl (.inl rfl)))) (fun _ _ _ _ _ => dts_nil) (fun _ _ _ _ _ => (de_tup (da_cons (de_op op_addA r_add (le_of de_str) (le_of (de_cb (pe_callTy call_str_int (by rfl) (hb "str" (by decide)) (by decide +kernel) (la_cons (le_of (de_var (pv 4))) la_nil)) r_str))) (da_cons (de_op op_addA r_add (le_of de_str) (le_of (de_cb (pe_callTy call_str_int (by rfl) (hb "str" (by decide)) (by decide +kernel) (la_cons (le_of (de_var (pv 10))) la_nil)) r_str))) da_nil)))))))))))))))
  (dss_cons (ds_asg (p := .nm 5) (ps_set (i := 5) sc__law_holds.nd rfl (.inl rfl) (de_call (pe_cal C_timetable hr (by decide) (by rfl) (da_cons (de_cb (pe_callTy call_tuple_of (by rfl) (hb "tuple" (by decide)) (by decide +kernel) (la_cons (le_of (de_var (pv 3))) la_nil)) r_tupOf) da_nil)) (aCons_len (fun _ _ _ _ h => aNil_len h)))))
  (dss_cons (ds_if (dt_bool (dw_or (dt_cmp (op_neD hr.units) r_ne (le_of (de_lenSetT (pe_callB cr_lenSetO (by rfl) (hb "len" (by decide)) (by decide +kernel) (pa_cons (pe_callTy (cr_setTI rfl) (by rfl) (hb "set" (by decide)) (by decide +kernel) (pa_cons (le_of (de_var (pv 5))) pa_nil)) pa_nil)))) (le_of (de_cb (pe_callB (call_max2 rfl) (by rfl) (hb "max" (by decide)) (by decide +kernel) (la_cons (le_of (de_var (pv 1))) (la_cons (le_of (de_var (pv 2))) la_nil))) r_max2)) (nomark _)) (dw_or (dt_cmp op_isnot_bl r_isntB (le_of (de_call (pe_cal C_is_timetable hr (by decide) (by rfl) (da_cons (de_cb (pe_callTy call_tuple_of (by rfl) (hb "tuple" (by decide)) (by decide +kernel) (la_cons (le_of (de_var (pv 3))) la_nil)) r_tupOf) (da_cons (de_var (pv 5)) da_nil))) (aCons_len (aCons_len (fun _ _ _ _ h => aNil_len h))))) (le_of de_bl) (nomark _)) (dw_or1 (dt_cmp (op_neD hr.units) r_ne (le_of (de_call (pe_cal C_fewest_hours hr (by decide) (by rfl) (da_cons (de_cb (pe_callTy call_tuple_of (by rfl) (hb "tuple" (by decide)) (by decide +kernel) (la_cons (le_of (de_var (pv 3))) la_nil)) r_tupOf) da_nil)) (aCons_len (fun _ _ _ _ h => aNil_len h)))) (le_of (de_cb (pe_callB (call_max2 rfl) (by rfl) (hb "max" (by decide)) (by decide +kernel) (la_cons (le_of (de_var (pv 1))) (la_cons (le_of (de_var (pv 2))) la_nil))) r_max2)) (nomark _)))))) (dss_one (ds_ret de_bl)) dss_nil)
  (dss_cons (ds_asg (p := .nm 6) (ps_set (i := 6) sc__law_holds.nd rfl (.inl rfl) (de_op op_addA r_add (le_of (de_cb (pe_callB (call_max2 rfl) (by rfl) (hb "max" (by decide)) (by decide +kernel) (la_cons (le_of (de_var (pv 1))) (la_cons (le_of (de_var (pv 2))) la_nil))) r_max2)) (le_of (de_callW (pe_cal C__law_next hr (by decide) (by rfl) (pa_cons (pv 0) (da_cons de_int da_nil))) (aCons_len (fun _ _ _ _ h => aNil_len h)))))))
  (dss_cons (ds_asgN (ps_set (i := 7) sc__law_holds.nd rfl (.inr rfl) (pe_cal C_with_hours hr (by decide) (by rfl) (da_cons (de_cb (pe_callTy call_tuple_of (by rfl) (hb "tuple" (by decide)) (by decide +kernel) (la_cons (le_of (de_var (pv 3))) la_nil)) r_tupOf) (da_cons (de_var (pv 6)) da_nil)))) (aCons_len (aCons_len (fun _ _ _ _ h => aNil_len h))))
  (dss_cons (ds_asgLc (ps_setLc (own := [("h", 9)]) (i := 8) rfl sc__law_holds.nd rfl rfl (sw_true rfl rfl rfl (by decide +kernel)) (di_range1 (pi_range1 (by rfl) (hb "range" (by decide)) (da_cons (de_var (pv 6)) da_nil))) (blkOk_by (N := n__law_holds) (sc := (defScope s__law_holds)) (by decide +kernel)) (fun _ _ _ _ _ => (dg_name (pg_name (i := 9) sc__law_holds.nd rfl (.inl rfl)))) (fun _ _ _ _ _ => dts_nil) (fun _ _ _ _ _ => (de_cntT (pe_bmT PySem.F.plainAttrs_tuple PySem.F.slot_tuple_count PySem.F.type_tuple_count (mt_countT (hu65 hr)) (pv 7) (pa_cons (de_var (pv 9)) pa_nil))))))
  (dss_one (ds_ret (de_and (de_cmp op_is_bl r_isB (le_of (de_call (pe_cal C_is_timetable hr (by decide) (by rfl) (da_cons (de_cb (pe_callTy call_tuple_of (by rfl) (hb "tuple" (by decide)) (by decide +kernel) (la_cons (le_of (de_var (pv 3))) la_nil)) r_tupOf) (da_cons (de_varT (pv 7)) da_nil))) (aCons_len (aCons_len (fun _ _ _ _ h => aNil_len h))))) (le_of de_bl) (nomark _)) (de_one (de_cmp op_le r_le (le_of (de_op op_sub r_sub (le_of (de_cb (pe_callB (cr_max rfl) (by rfl) (hb "max" (by decide)) (by decide +kernel) (la_cons (le_of (de_var (pv 8))) la_nil)) r_max1)) (le_of (de_cb (pe_callB (cr_min rfl) (by rfl) (hb "min" (by decide)) (by decide +kernel) (la_cons (le_of (de_var (pv 8))) la_nil)) r_min1)))) (le_of de_int) (nomark _))))))))))))))
theorem sc_law : FnScope ["script", "w", "turn"] ["script"] (defScope s_law) := ⟨rfl, rfl, rfl, by decide +kernel, rfl, by decide +kernel, by decide +kernel⟩
set_option maxHeartbeats 8000000 in
theorem ok_law {f : Addr} {fd : FuncData} (F : Fun K "law" "law" s_law f fd) (hb : ∀ x : Str, x ∈ blt → mg x = none) (hh : HoldOk f__law_holds) (C__law_draws : Cal P w K mg base 1 "_law_draws" (SpD K fDraws)) (C__law_holds : Cal P w K mg base 6 "_law_holds" (SpW K 0 f__law_holds)) : FnOk P w K mg base CX0 7 f fd ["script"] (SpLaw K none) := by
  refine F.ok sc_law (fun vs H Q E h => ?_) (fun cdv A outer s H vs Q E hr h => ⟨_, pss_cons (ps_set (i := 1) sc_law.nd rfl (.inl rfl) (pe_disp (pps_cons pe_str (de_callD (pe_cal C__law_draws hr (by decide) (by rfl) (pa_cons (pv 0) (pa_cons pe_int pa_nil)))) (pps_cons pe_str pe_int pps_nil)) rfl rfl (by decide) (by decide)))
    (dss_cons (ds_for (ps_for PassesOwn.never rfl (di_range1 (pi_range1 (by rfl) (hb "range" (by decide)) (da_cons de_int da_nil))) (dg_name (pg_name (i := 2) sc_law.nd rfl (.inl rfl)))
      (dss_one (ds_if (dt_not (dt_val (de_callW (pe_cal C__law_holds hr (by decide) (by rfl) (pa_cons (pv 1) da_nil)) (fun _ _ _ _ h => aNil_len h)))) (dss_one (ds_ret de_bl)) dss_nil)))) (dss_one (ds_ret de_bl))), law_rd (turns := 4) (by decide) hh h⟩)
  obtain ⟨a, ns, rfl, _⟩ := h
  rfl
end
set_option maxHeartbeats 8000000 in
theorem all_mk {l : PySem.W.OpenLaw} {w : World} {K : PySem.W.Frag} {h : Heap} {mg : Str → Option Value} {fa : Addr} (X : K.In h) (G : h.Ns mainGlobals mg) (hfa : mg "law" = some (.ref fa)) (hh : HoldOk f__law_holds)
    {CT : Addr}
    {f0 : Addr} {od0 an0 : Option Addr} {sl0 : Array (Option Value)} {oc0 kV0 dc0 pm0 cd0 ct0 : Value}
    {f1 : Addr} {od1 an1 : Option Addr} {sl1 : Array (Option Value)} {oc1 kV1 dc1 pm1 cd1 ct1 : Value}
    {f2 : Addr} {od2 an2 : Option Addr} {sl2 : Array (Option Value)} {oc2 kV2 dc2 pm2 cd2 ct2 : Value}
    {f3 : Addr} {od3 an3 : Option Addr} {sl3 : Array (Option Value)} {oc3 kV3 dc3 pm3 cd3 ct3 : Value}
    {f4 : Addr} {od4 an4 : Option Addr} {sl4 : Array (Option Value)} {oc4 kV4 dc4 pm4 cd4 ct4 : Value}
    {f5 : Addr} {od5 an5 : Option Addr} {sl5 : Array (Option Value)} {oc5 kV5 dc5 pm5 cd5 ct5 : Value}
    {f6 : Addr} {od6 an6 : Option Addr} {sl6 : Array (Option Value)} {oc6 kV6 dc6 pm6 cd6 ct6 : Value}
    {f7 : Addr} {od7 an7 : Option Addr} {sl7 : Array (Option Value)} {oc7 kV7 dc7 pm7 cd7 ct7 : Value}
    {f8 : Addr} {od8 an8 : Option Addr} {sl8 : Array (Option Value)} {oc8 kV8 dc8 pm8 cd8 ct8 : Value}
    {f9 : Addr} {od9 an9 : Option Addr} {sl9 : Array (Option Value)} {oc9 kV9 dc9 pm9 cd9 ct9 : Value}
    {f10 : Addr} {od10 an10 : Option Addr} {sl10 : Array (Option Value)} {oc10 kV10 dc10 pm10 cd10 ct10 : Value}
    {f11 : Addr} {od11 an11 : Option Addr} {sl11 : Array (Option Value)} {oc11 kV11 dc11 pm11 cd11 ct11 : Value}
    {f12 : Addr} {od12 an12 : Option Addr} {sl12 : Array (Option Value)} {oc12 kV12 dc12 pm12 cd12 ct12 : Value}
    {f13 : Addr} {od13 an13 : Option Addr} {sl13 : Array (Option Value)} {oc13 kV13 dc13 pm13 cd13 ct13 : Value}
    {f14 : Addr} {od14 an14 : Option Addr} {sl14 : Array (Option Value)} {oc14 kV14 dc14 pm14 cd14 ct14 : Value}
    {f15 : Addr} {od15 an15 : Option Addr} {sl15 : Array (Option Value)} {oc15 kV15 dc15 pm15 cd15 ct15 : Value}
    {f16 : Addr} {od16 an16 : Option Addr} {sl16 : Array (Option Value)} {oc16 kV16 dc16 pm16 cd16 ct16 : Value}
    {f17 : Addr} {od17 an17 : Option Addr} {sl17 : Array (Option Value)} {oc17 kV17 dc17 pm17 cd17 ct17 : Value}
    {f18 : Addr} {od18 an18 : Option Addr} {sl18 : Array (Option Value)} {oc18 kV18 dc18 pm18 cd18 ct18 : Value}
    {f19 : Addr} {od19 an19 : Option Addr} {sl19 : Array (Option Value)} {oc19 kV19 dc19 pm19 cd19 ct19 : Value}
    {f20 : Addr} {od20 an20 : Option Addr} {sl20 : Array (Option Value)} {oc20 kV20 dc20 pm20 cd20 ct20 : Value}
    (aT : PySem.W.nsIn K mainGlobals "Table" = some (some (.ref CT)))
    (t1 : PySem.W.plainGet K CT Str.empty = true)
    (t2 : PySem.W.hasDictIn K CT = true)
    (t3 : PySem.W.plainOver K CT = true)
    (t4 : PySem.W.findIn K (.ref CT) "__setattr__" = some (some (.builtin "object.__setattr__")))
    (u1 : PySem.W.findIn K (.ref CT) "lessons" = some none)
    (u2 : PySem.W.findIn K (.ref CT) "many" = some none)
    (u3 : PySem.W.findIn K (.ref CT) "hours" = some none)
    (m1 : PySem.W.makesIn K CT = true)
    (m2 : PySem.W.keepIn K (.ref CT) = true)
    (a0 : PySem.W.nsIn K mainGlobals "is_number" = some (some (.ref f0)))
    (l0 : K.lookup f0 = some ⟨oc0, od0, .func (PySem.W.fnOf "is_number" "is_number" (defArgs s_is_number) (defBody s_is_number) (defScope s_is_number) .none kV0 dc0 pm0 an0 cd0 ct0), sl0⟩)
    (c0 : PySem.W.codeIn K cd0 "is_number" = true)
    (k0 : PySem.W.keepIn K (.ref f0) = true)
    (a1 : PySem.W.nsIn K mainGlobals "is_tuple_of" = some (some (.ref f1)))
    (l1 : K.lookup f1 = some ⟨oc1, od1, .func (PySem.W.fnOf "is_tuple_of" "is_tuple_of" (defArgs s_is_tuple_of) (defBody s_is_tuple_of) (defScope s_is_tuple_of) .none kV1 dc1 pm1 an1 cd1 ct1), sl1⟩)
    (c1 : PySem.W.codeIn K cd1 "is_tuple_of" = true)
    (k1 : PySem.W.keepIn K (.ref f1) = true)
    (a2 : PySem.W.nsIn K mainGlobals "are_numbers" = some (some (.ref f2)))
    (l2 : K.lookup f2 = some ⟨oc2, od2, .func (PySem.W.fnOf "are_numbers" "are_numbers" (defArgs s_are_numbers) (defBody s_are_numbers) (defScope s_are_numbers) .none kV2 dc2 pm2 an2 cd2 ct2), sl2⟩)
    (c2 : PySem.W.codeIn K cd2 "are_numbers" = true)
    (k2 : PySem.W.keepIn K (.ref f2) = true)
    (a3 : PySem.W.nsIn K mainGlobals "fewest_hours" = some (some (.ref f3)))
    (l3 : K.lookup f3 = some ⟨oc3, od3, .func (PySem.W.fnOf "fewest_hours" "fewest_hours" (defArgs s_fewest_hours) (defBody s_fewest_hours) (defScope s_fewest_hours) .none kV3 dc3 pm3 an3 cd3 ct3), sl3⟩)
    (c3 : PySem.W.codeIn K cd3 "fewest_hours" = true)
    (k3 : PySem.W.keepIn K (.ref f3) = true)
    (a4 : PySem.W.nsIn K mainGlobals "is_timetable" = some (some (.ref f4)))
    (l4 : K.lookup f4 = some ⟨oc4, od4, .func (PySem.W.fnOf "is_timetable" "is_timetable" (defArgs s_is_timetable) (defBody s_is_timetable) (defScope s_is_timetable) .none kV4 dc4 pm4 an4 cd4 ct4), sl4⟩)
    (c4 : PySem.W.codeIn K cd4 "is_timetable" = true)
    (k4 : PySem.W.keepIn K (.ref f4) = true)
    (a5 : PySem.W.findIn K (.ref CT) "lesson_at" = some (some (.ref f5)))
    (l5 : K.lookup f5 = some ⟨oc5, od5, .func (PySem.W.fnOf "lesson_at" "Table.lesson_at" (defArgs s_lesson_at) (defBody s_lesson_at) (defScope s_lesson_at) .none kV5 dc5 pm5 an5 cd5 ct5), sl5⟩)
    (c5 : PySem.W.codeIn K cd5 "Table.lesson_at" = true)
    (k5 : PySem.W.keepIn K (.ref f5) = true)
    (g5 : PySem.W.isFn K (.ref f5) = true)
    (a6 : PySem.W.findIn K (.ref CT) "free_hour" = some (some (.ref f6)))
    (l6 : K.lookup f6 = some ⟨oc6, od6, .func (PySem.W.fnOf "free_hour" "Table.free_hour" (defArgs s_free_hour) (defBody s_free_hour) (defScope s_free_hour) .none kV6 dc6 pm6 an6 cd6 ct6), sl6⟩)
    (c6 : PySem.W.codeIn K cd6 "Table.free_hour" = true)
    (k6 : PySem.W.keepIn K (.ref f6) = true)
    (g6 : PySem.W.isFn K (.ref f6) = true)
    (a7 : PySem.W.findIn K (.ref CT) "row_from" = some (some (.ref f7)))
    (l7 : K.lookup f7 = some ⟨oc7, od7, .func (PySem.W.fnOf "row_from" "Table.row_from" (defArgs s_row_from) (defBody s_row_from) (defScope s_row_from) .none kV7 dc7 pm7 an7 cd7 ct7), sl7⟩)
    (c7 : PySem.W.codeIn K cd7 "Table.row_from" = true)
    (k7 : PySem.W.keepIn K (.ref f7) = true)
    (g7 : PySem.W.isFn K (.ref f7) = true)
    (a8 : PySem.W.findIn K (.ref CT) "turn" = some (some (.ref f8)))
    (l8 : K.lookup f8 = some ⟨oc8, od8, .func (PySem.W.fnOf "turn" "Table.turn" (defArgs s_turn) (defBody s_turn) (defScope s_turn) .none kV8 dc8 pm8 an8 cd8 ct8), sl8⟩)
    (c8 : PySem.W.codeIn K cd8 "Table.turn" = true)
    (k8 : PySem.W.keepIn K (.ref f8) = true)
    (g8 : PySem.W.isFn K (.ref f8) = true)
    (a9 : PySem.W.findIn K (.ref CT) "lay" = some (some (.ref f9)))
    (l9 : K.lookup f9 = some ⟨oc9, od9, .func (PySem.W.fnOf "lay" "Table.lay" (defArgs s_lay) (defBody s_lay) (defScope s_lay) .none kV9 dc9 pm9 an9 cd9 ct9), sl9⟩)
    (c9 : PySem.W.codeIn K cd9 "Table.lay" = true)
    (k9 : PySem.W.keepIn K (.ref f9) = true)
    (g9 : PySem.W.isFn K (.ref f9) = true)
    (a10 : PySem.W.findIn K (.ref CT) "sizes" = some (some (.ref f10)))
    (l10 : K.lookup f10 = some ⟨oc10, od10, .func (PySem.W.fnOf "sizes" "Table.sizes" (defArgs s_sizes) (defBody s_sizes) (defScope s_sizes) .none kV10 dc10 pm10 an10 cd10 ct10), sl10⟩)
    (c10 : PySem.W.codeIn K cd10 "Table.sizes" = true)
    (k10 : PySem.W.keepIn K (.ref f10) = true)
    (g10 : PySem.W.isFn K (.ref f10) = true)
    (a11 : PySem.W.findIn K (.ref CT) "whole_row" = some (some (.ref f11)))
    (l11 : K.lookup f11 = some ⟨oc11, od11, .func (PySem.W.fnOf "whole_row" "Table.whole_row" (defArgs s_whole_row) (defBody s_whole_row) (defScope s_whole_row) .none kV11 dc11 pm11 an11 cd11 ct11), sl11⟩)
    (c11 : PySem.W.codeIn K cd11 "Table.whole_row" = true)
    (k11 : PySem.W.keepIn K (.ref f11) = true)
    (g11 : PySem.W.isFn K (.ref f11) = true)
    (a12 : PySem.W.findIn K (.ref CT) "longer_row" = some (some (.ref f12)))
    (l12 : K.lookup f12 = some ⟨oc12, od12, .func (PySem.W.fnOf "longer_row" "Table.longer_row" (defArgs s_longer_row) (defBody s_longer_row) (defScope s_longer_row) .none kV12 dc12 pm12 an12 cd12 ct12), sl12⟩)
    (c12 : PySem.W.codeIn K cd12 "Table.longer_row" = true)
    (k12 : PySem.W.keepIn K (.ref f12) = true)
    (g12 : PySem.W.isFn K (.ref f12) = true)
    (a13 : PySem.W.findIn K (.ref CT) "even_out" = some (some (.ref f13)))
    (l13 : K.lookup f13 = some ⟨oc13, od13, .func (PySem.W.fnOf "even_out" "Table.even_out" (defArgs s_even_out) (defBody s_even_out) (defScope s_even_out) .none kV13 dc13 pm13 an13 cd13 ct13), sl13⟩)
    (c13 : PySem.W.codeIn K cd13 "Table.even_out" = true)
    (k13 : PySem.W.keepIn K (.ref f13) = true)
    (g13 : PySem.W.isFn K (.ref f13) = true)
    (a14 : PySem.W.nsIn K mainGlobals "with_hours" = some (some (.ref f14)))
    (l14 : K.lookup f14 = some ⟨oc14, od14, .func (PySem.W.fnOf "with_hours" "with_hours" (defArgs s_with_hours) (defBody s_with_hours) (defScope s_with_hours) .none kV14 dc14 pm14 an14 cd14 ct14), sl14⟩)
    (c14 : PySem.W.codeIn K cd14 "with_hours" = true)
    (k14 : PySem.W.keepIn K (.ref f14) = true)
    (a15 : PySem.W.nsIn K mainGlobals "timetable" = some (some (.ref f15)))
    (l15 : K.lookup f15 = some ⟨oc15, od15, .func (PySem.W.fnOf "timetable" "timetable" (defArgs s_timetable) (defBody s_timetable) (defScope s_timetable) .none kV15 dc15 pm15 an15 cd15 ct15), sl15⟩)
    (c15 : PySem.W.codeIn K cd15 "timetable" = true)
    (k15 : PySem.W.keepIn K (.ref f15) = true)
    (a16 : PySem.W.nsIn K mainGlobals "_law_draws" = some (some (.ref f16)))
    (l16 : K.lookup f16 = some ⟨oc16, od16, .func (PySem.W.fnOf "_law_draws" "_law_draws" (defArgs s__law_draws) (defBody s__law_draws) (defScope s__law_draws) .none kV16 dc16 pm16 an16 cd16 ct16), sl16⟩)
    (c16 : PySem.W.codeIn K cd16 "_law_draws" = true)
    (k16 : PySem.W.keepIn K (.ref f16) = true)
    (a17 : PySem.W.nsIn K mainGlobals "_law_next" = some (some (.ref f17)))
    (l17 : K.lookup f17 = some ⟨oc17, od17, .func (PySem.W.fnOf "_law_next" "_law_next" (defArgs s__law_next) (defBody s__law_next) (defScope s__law_next) .none kV17 dc17 pm17 an17 cd17 ct17), sl17⟩)
    (c17 : PySem.W.codeIn K cd17 "_law_next" = true)
    (k17 : PySem.W.keepIn K (.ref f17) = true)
    (a18 : PySem.W.nsIn K mainGlobals "_law_holds" = some (some (.ref f18)))
    (l18 : K.lookup f18 = some ⟨oc18, od18, .func (PySem.W.fnOf "_law_holds" "_law_holds" (defArgs s__law_holds) (defBody s__law_holds) (defScope s__law_holds) .none kV18 dc18 pm18 an18 cd18 ct18), sl18⟩)
    (c18 : PySem.W.codeIn K cd18 "_law_holds" = true)
    (k18 : PySem.W.keepIn K (.ref f18) = true)
    (a19 : PySem.W.nsIn K mainGlobals "law" = some (some (.ref f19)))
    (l19 : K.lookup f19 = some ⟨oc19, od19, .func (PySem.W.fnOf "law" "law" (defArgs s_law) (defBody s_law) (defScope s_law) .none kV19 dc19 pm19 an19 cd19 ct19), sl19⟩)
    (c19 : PySem.W.codeIn K cd19 "law" = true)
    (k19 : PySem.W.keepIn K (.ref f19) = true)
    (a20 : PySem.W.findIn K (.ref CT) "__init__" = some (some (.ref f20)))
    (l20 : K.lookup f20 = some ⟨oc20, od20, .func (PySem.W.fnOf "__init__" "Table.__init__" (defArgs s___init__) (defBody s___init__) (defScope s___init__) .none kV20 dc20 pm20 an20 cd20 ct20), sl20⟩)
    (c20 : PySem.W.codeIn K cd20 "Table.__init__" = true)
    (k20 : PySem.W.keepIn K (.ref f20) = true)
    (g20 : PySem.W.isFn K (.ref f20) = true)
    (z0 : PySem.W.nsIn K mainGlobals "abs" = some none)
    (z1 : PySem.W.nsIn K mainGlobals "all" = some none)
    (z2 : PySem.W.nsIn K mainGlobals "bool" = some none)
    (z3 : PySem.W.nsIn K mainGlobals "dict" = some none)
    (z4 : PySem.W.nsIn K mainGlobals "int" = some none)
    (z5 : PySem.W.nsIn K mainGlobals "isinstance" = some none)
    (z6 : PySem.W.nsIn K mainGlobals "len" = some none)
    (z7 : PySem.W.nsIn K mainGlobals "max" = some none)
    (z8 : PySem.W.nsIn K mainGlobals "min" = some none)
    (z9 : PySem.W.nsIn K mainGlobals "range" = some none)
    (z10 : PySem.W.nsIn K mainGlobals "set" = some none)
    (z11 : PySem.W.nsIn K mainGlobals "str" = some none)
    (z12 : PySem.W.nsIn K mainGlobals "tuple" = some none) :
    ∃ fd : FuncData, (∀ (s : Shared) (v : Value), BindsTo s fd ⟨[v], []⟩ [("script", v)]) ∧ ∀ base : Heap, K.In base → base.Ns mainGlobals mg → FnOk l.prog w K mg base CX0 7 fa fd ["script"] (SpLaw K none) := by
  have e := hfa.symm.trans (PySem.W.mg_of X G a19)
  cases e
  have hb : ∀ x : Str, x ∈ blt → mg x = none := List.forall_mem_cons.mpr ⟨PySem.W.mg_none_of X G z0, List.forall_mem_cons.mpr ⟨PySem.W.mg_none_of X G z1, List.forall_mem_cons.mpr ⟨PySem.W.mg_none_of X G z2, List.forall_mem_cons.mpr ⟨PySem.W.mg_none_of X G z3, List.forall_mem_cons.mpr ⟨PySem.W.mg_none_of X G z4, List.forall_mem_cons.mpr ⟨PySem.W.mg_none_of X G z5, List.forall_mem_cons.mpr ⟨PySem.W.mg_none_of X G z6, List.forall_mem_cons.mpr ⟨PySem.W.mg_none_of X G z7, List.forall_mem_cons.mpr ⟨PySem.W.mg_none_of X G z8, List.forall_mem_cons.mpr ⟨PySem.W.mg_none_of X G z9, List.forall_mem_cons.mpr ⟨PySem.W.mg_none_of X G z10, List.forall_mem_cons.mpr ⟨PySem.W.mg_none_of X G z11, List.forall_mem_cons.mpr ⟨PySem.W.mg_none_of X G z12, fun _ h => (nomatch h)⟩⟩⟩⟩⟩⟩⟩⟩⟩⟩⟩⟩⟩
  have F0 := fun_mk (st := s_is_number) l0 c0 k0
  have b0 := F0.binds (ps := ["thing"]) fun _ _ _ _ _ _ us hl => match us, hl with | [_], _ => rfl
  have F1 := fun_mk (st := s_is_tuple_of) l1 c1 k1
  have b1 := F1.binds (ps := ["thing", "many"]) fun _ _ _ _ _ _ us hl => match us, hl with | [_, _], _ => rfl
  have F2 := fun_mk (st := s_are_numbers) l2 c2 k2
  have b2 := F2.binds (ps := ["thing"]) fun _ _ _ _ _ _ us hl => match us, hl with | [_], _ => rfl
  have F3 := fun_mk (st := s_fewest_hours) l3 c3 k3
  have b3 := F3.binds (ps := ["lessons"]) fun _ _ _ _ _ _ us hl => match us, hl with | [_], _ => rfl
  have F4 := fun_mk (st := s_is_timetable) l4 c4 k4
  have b4 := F4.binds (ps := ["lessons", "hours"]) fun _ _ _ _ _ _ us hl => match us, hl with | [_, _], _ => rfl
  have F5 := fun_mk (st := s_lesson_at) l5 c5 k5
  have b5 := F5.binds (ps := ["self", "side", "name", "hour"]) fun _ _ _ _ _ _ us hl => match us, hl with | [_, _, _, _], _ => rfl
  have F6 := fun_mk (st := s_free_hour) l6 c6 k6
  have b6 := F6.binds (ps := ["self", "side", "name"]) fun _ _ _ _ _ _ us hl => match us, hl with | [_, _, _], _ => rfl
  have F7 := fun_mk (st := s_row_from) l7 c7 k7
  have b7 := F7.binds (ps := ["self", "side", "name", "hour", "other"]) fun _ _ _ _ _ _ us hl => match us, hl with | [_, _, _, _, _], _ => rfl
  have F8 := fun_mk (st := s_turn) l8 c8 k8
  have b8 := F8.binds (ps := ["self", "row", "one", "other"]) fun _ _ _ _ _ _ us hl => match us, hl with | [_, _, _, _], _ => rfl
  have F9 := fun_mk (st := s_lay) l9 c9 k9
  have b9 := F9.binds (ps := ["self", "k"]) fun _ _ _ _ _ _ us hl => match us, hl with | [_, _], _ => rfl
  have F10 := fun_mk (st := s_sizes) l10 c10 k10
  have b10 := F10.binds (ps := ["self"]) fun _ _ _ _ _ _ us hl => match us, hl with | [_], _ => rfl
  have F11 := fun_mk (st := s_whole_row) l11 c11 k11
  have b11 := F11.binds (ps := ["self", "k", "one", "other"]) fun _ _ _ _ _ _ us hl => match us, hl with | [_, _, _, _], _ => rfl
  have F12 := fun_mk (st := s_longer_row) l12 c12 k12
  have b12 := F12.binds (ps := ["self", "one", "other"]) fun _ _ _ _ _ _ us hl => match us, hl with | [_, _, _], _ => rfl
  have F13 := fun_mk (st := s_even_out) l13 c13 k13
  have b13 := F13.binds (ps := ["self"]) fun _ _ _ _ _ _ us hl => match us, hl with | [_], _ => rfl
  have F14 := fun_mk (st := s_with_hours) l14 c14 k14
  have b14 := F14.binds (ps := ["lessons", "many"]) fun _ _ _ _ _ _ us hl => match us, hl with | [_, _], _ => rfl
  have F15 := fun_mk (st := s_timetable) l15 c15 k15
  have b15 := F15.binds (ps := ["lessons"]) fun _ _ _ _ _ _ us hl => match us, hl with | [_], _ => rfl
  have F16 := fun_mk (st := s__law_draws) l16 c16 k16
  have b16 := F16.binds (ps := ["script", "many"]) fun _ _ _ _ _ _ us hl => match us, hl with | [_, _], _ => rfl
  have F17 := fun_mk (st := s__law_next) l17 c17 k17
  have b17 := F17.binds (ps := ["w", "many"]) fun _ _ _ _ _ _ us hl => match us, hl with | [_, _], _ => rfl
  have F18 := fun_mk (st := s__law_holds) l18 c18 k18
  have b18 := F18.binds (ps := ["w"]) fun _ _ _ _ _ _ us hl => match us, hl with | [_], _ => rfl
  have F19 := fun_mk (st := s_law) l19 c19 k19
  have F20 := fun_mk (st := s___init__) l20 c20 k20
  have b20 := F20.binds (ps := ["self", "lessons", "many"]) fun _ _ _ _ _ _ us hl => match us, hl with | [_, _, _], _ => rfl
  refine ⟨PySem.W.fnOf "law" "law" (defArgs s_law) (defBody s_law) (defScope s_law) .none kV19 dc19 pm19 an19 cd19 ct19, fun s v => .of_eq rfl, fun base _ _ => ?_⟩
  have eC : clsK K = CT := by
    unfold clsK
    rw [aT]
  subst eC
  have cT : TabC K := ⟨⟨t1, t2, t3, t4⟩, u1, u2, u3⟩
  have MK : MakT l.prog w K mg base := ⟨f20, _, ["self", "lessons", "many"], ⟨m1, a20, g20, m2⟩, ok___init__ cT F20 hb, PySem.W.mg_of X G aT, b20⟩
  have C_is_number : Cal l.prog w K mg base 1 "is_number" (SpP K 1 f_is_number) := ⟨f0, _, ["thing"], ok_is_number F0 hb, PySem.W.mg_of X G a0, k0, b0⟩
  have C_is_tuple_of : Cal l.prog w K mg base 1 "is_tuple_of" (SpP K 2 f_is_tuple_of) := ⟨f1, _, ["thing", "many"], ok_is_tuple_of F1 hb, PySem.W.mg_of X G a1, k1, b1⟩
  have C_are_numbers : Cal l.prog w K mg base 2 "are_numbers" (SpP K 1 f_are_numbers) := ⟨f2, _, ["thing"], ok_are_numbers F2 hb C_is_number, PySem.W.mg_of X G a2, k2, b2⟩
  have C_fewest_hours : Cal l.prog w K mg base 1 "fewest_hours" (SpP K 1 f_fewest_hours) := ⟨f3, _, ["lessons"], ok_fewest_hours F3 hb, PySem.W.mg_of X G a3, k3, b3⟩
  have C_is_timetable : Cal l.prog w K mg base 3 "is_timetable" (SpP K 2 f_is_timetable) := ⟨f4, _, ["lessons", "hours"], ok_is_timetable F4 hb C_are_numbers C_is_tuple_of, PySem.W.mg_of X G a4, k4, b4⟩
  have M_lesson_at : Met l.prog w K mg base 1 "lesson_at" (SpW K 3 f_lesson_at) := ⟨f5, _, ["self", "side", "name", "hour"], ok_lesson_at F5 hb cT, ⟨a5, g5, k5⟩, b5⟩
  have M_free_hour : Met l.prog w K mg base 2 "free_hour" (SpW K 2 f_free_hour) := ⟨f6, _, ["self", "side", "name"], ok_free_hour F6 hb cT M_lesson_at, ⟨a6, g6, k6⟩, b6⟩
  have M_row_from : Met l.prog w K mg base 2 "row_from" (SpW K 4 f_row_from) := ⟨f7, _, ["self", "side", "name", "hour", "other"], ok_row_from F7 hb cT M_lesson_at, ⟨a7, g7, k7⟩, b7⟩
  have M_turn : Met l.prog w K mg base 1 "turn" (SpW K 3 f_turn) := ⟨f8, _, ["self", "row", "one", "other"], ok_turn F8 hb cT, ⟨a8, g8, k8⟩, b8⟩
  have M_lay : Met l.prog w K mg base 3 "lay" (SpW K 1 f_lay) := ⟨f9, _, ["self", "k"], ok_lay F9 hb cT M_free_hour M_lesson_at M_row_from M_turn, ⟨a9, g9, k9⟩, b9⟩
  have M_sizes : Met l.prog w K mg base 1 "sizes" (SpW K 0 f_sizes) := ⟨f10, _, ["self"], ok_sizes F10 hb cT, ⟨a10, g10, k10⟩, b10⟩
  have M_whole_row : Met l.prog w K mg base 2 "whole_row" (SpW K 3 f_whole_row) := ⟨f11, _, ["self", "k", "one", "other"], ok_whole_row F11 hb cT M_lesson_at, ⟨a11, g11, k11⟩, b11⟩
  have M_longer_row : Met l.prog w K mg base 3 "longer_row" (SpW K 2 f_longer_row) := ⟨f12, _, ["self", "one", "other"], ok_longer_row F12 hb cT M_whole_row, ⟨a12, g12, k12⟩, b12⟩
  have M_even_out : Met l.prog w K mg base 4 "even_out" (SpW K 0 f_even_out) := ⟨f13, _, ["self"], ok_even_out F13 hb cT M_longer_row M_sizes M_turn, ⟨a13, g13, k13⟩, b13⟩
  have C_with_hours : Cal l.prog w K mg base 5 "with_hours" (SpN K 2 f_with_hours) := ⟨f14, _, ["lessons", "many"], ok_with_hours F14 hb cT MK M_even_out M_lay, PySem.W.mg_of X G a14, k14, b14⟩
  have C_timetable : Cal l.prog w K mg base 4 "timetable" (SpP K 1 f_timetable) := ⟨f15, _, ["lessons"], ok_timetable F15 hb cT MK M_lay C_fewest_hours, PySem.W.mg_of X G a15, k15, b15⟩
  have C__law_draws : Cal l.prog w K mg base 1 "_law_draws" (SpD K fDraws) := ⟨f16, _, ["script", "many"], ok__law_draws F16 hb, PySem.W.mg_of X G a16, k16, b16⟩
  have C__law_next : Cal l.prog w K mg base 1 "_law_next" (SpW K 1 fNext) := ⟨f17, _, ["w", "many"], ok__law_next F17 hb, PySem.W.mg_of X G a17, k17, b17⟩
  have C__law_holds : Cal l.prog w K mg base 6 "_law_holds" (SpW K 0 f__law_holds) := ⟨f18, _, ["w"], ok__law_holds F18 hb C__law_next C_fewest_hours C_is_timetable C_timetable C_with_hours, PySem.W.mg_of X G a18, k18, b18⟩
  exact ok_law F19 hb hh C__law_draws C__law_holds
theorem walk {l : PySem.W.OpenLaw} {q : Program} {loose : List Str} {XP : (Str → Option Value) → Heap → Prop} {YP : World → Heap → Prop} {d : DefRec} {K : Params → PySem.W.Frag} (hn : l.most = some 63) (hdf : d.params.defaults = [])
    (hY : ∀ (w : World) (h : Heap), YP w h → (K w.params).In h)
    (F : ∀ (w : World) (mg : Str → Option Value) (fa : Addr) (h : Heap), (K w.params).In h → h.Ns mainGlobals mg → mg d.name = some (.ref fa) →
      ∃ fd : FuncData, (∀ (s : Shared) (u : Value), BindsTo s fd ⟨[u], []⟩ [("script", u)]) ∧ ∀ base : Heap, (K w.params).In base → base.Ns mainGlobals mg → FnOk l.prog w (K w.params) mg base CX0 7 fa fd ["script"] (SpLaw (K w.params) none)) :
    PySem.W.WalkO q loose XP YP l.row.toRowW d [] (fun f vs => PySem.call f vs) :=
  L2.walk_of (n := 63) (k := 7) (x := "script") (CX := fun _ => CX0) (sp := fun w => SpLaw (K w.params) none) hn (by decide) hdf ⟨rfl, by decide, by decide⟩ hY F (fun _ _ a ns hl _ hS => ⟨a, ns, rfl, hS, hl, (fun _ e => nomatch e), fun _ => rfl⟩) fun _ _ _ _ _ z => z
end LK

open PySem PySem.W PyProof.Rows in
set_option maxRecDepth 100000 in
set_option maxHeartbeats 0 in
theorem PySem.Challenge.cw_daysworn_k18_whole_known_lessons_in_few_holds : PySem.Challenge.rw_daysworn_k18_whole_known_lessons_in_few.Holds := by
  w_on; o_law; k_head; (case hw => w_witness2)
  k_fill
  refine LK.walk (l := PySem.Challenge.rw_daysworn_k18_whole_known_lessons_in_few) rfl rfl (fun w h Y => PySem.W.kIn_of Y) ?F
  case F =>
    intro w mg fa h KX G hmg
    refine' LK.all_mk KX G hmg LK.hold_ok ?aT ?t1 ?t2 ?t3 ?t4 ?u1 ?u2 ?u3 ?m1 ?m2 ?a0 ?l0 ?c0 ?k0 ?a1 ?l1 ?c1 ?k1 ?a2 ?l2 ?c2 ?k2 ?a3 ?l3 ?c3 ?k3 ?a4 ?l4 ?c4 ?k4 ?a5 ?l5 ?c5 ?k5 ?g5 ?a6 ?l6 ?c6 ?k6 ?g6 ?a7 ?l7 ?c7 ?k7 ?g7 ?a8 ?l8 ?c8 ?k8 ?g8 ?a9 ?l9 ?c9 ?k9 ?g9 ?a10 ?l10 ?c10 ?k10 ?g10 ?a11 ?l11 ?c11 ?k11 ?g11 ?a12 ?l12 ?c12 ?k12 ?g12 ?a13 ?l13 ?c13 ?k13 ?g13 ?a14 ?l14 ?c14 ?k14 ?a15 ?l15 ?c15 ?k15 ?a16 ?l16 ?c16 ?k16 ?a17 ?l17 ?c17 ?k17 ?a18 ?l18 ?c18 ?k18 ?a19 ?l19 ?c19 ?k19 ?a20 ?l20 ?c20 ?k20 ?g20 ?z0 ?z1 ?z2 ?z3 ?z4 ?z5 ?z6 ?z7 ?z8 ?z9 ?z10 ?z11 ?z12
    (case aT => k_is)
    (case t1 => k_is)
    (case t2 => k_is)
    (case t3 => k_is)
    (case t4 => k_is)
    (case u1 => k_is)
    (case u2 => k_is)
    (case u3 => k_is)
    (case m1 => k_is)
    (case m2 => k_is)
    (case a0 => k_is)
    (case l0 => k_is)
    (case c0 => k_is)
    (case k0 => k_is)
    (case a1 => k_is)
    (case l1 => k_is)
    (case c1 => k_is)
    (case k1 => k_is)
    (case a2 => k_is)
    (case l2 => k_is)
    (case c2 => k_is)
    (case k2 => k_is)
    (case a3 => k_is)
    (case l3 => k_is)
    (case c3 => k_is)
    (case k3 => k_is)
    (case a4 => k_is)
    (case l4 => k_is)
    (case c4 => k_is)
    (case k4 => k_is)
    (case a5 => k_is)
    (case l5 => k_is)
    (case c5 => k_is)
    (case k5 => k_is)
    (case g5 => k_is)
    (case a6 => k_is)
    (case l6 => k_is)
    (case c6 => k_is)
    (case k6 => k_is)
    (case g6 => k_is)
    (case a7 => k_is)
    (case l7 => k_is)
    (case c7 => k_is)
    (case k7 => k_is)
    (case g7 => k_is)
    (case a8 => k_is)
    (case l8 => k_is)
    (case c8 => k_is)
    (case k8 => k_is)
    (case g8 => k_is)
    (case a9 => k_is)
    (case l9 => k_is)
    (case c9 => k_is)
    (case k9 => k_is)
    (case g9 => k_is)
    (case a10 => k_is)
    (case l10 => k_is)
    (case c10 => k_is)
    (case k10 => k_is)
    (case g10 => k_is)
    (case a11 => k_is)
    (case l11 => k_is)
    (case c11 => k_is)
    (case k11 => k_is)
    (case g11 => k_is)
    (case a12 => k_is)
    (case l12 => k_is)
    (case c12 => k_is)
    (case k12 => k_is)
    (case g12 => k_is)
    (case a13 => k_is)
    (case l13 => k_is)
    (case c13 => k_is)
    (case k13 => k_is)
    (case g13 => k_is)
    (case a14 => k_is)
    (case l14 => k_is)
    (case c14 => k_is)
    (case k14 => k_is)
    (case a15 => k_is)
    (case l15 => k_is)
    (case c15 => k_is)
    (case k15 => k_is)
    (case a16 => k_is)
    (case l16 => k_is)
    (case c16 => k_is)
    (case k16 => k_is)
    (case a17 => k_is)
    (case l17 => k_is)
    (case c17 => k_is)
    (case k17 => k_is)
    (case a18 => k_is)
    (case l18 => k_is)
    (case c18 => k_is)
    (case k18 => k_is)
    (case a19 => k_is)
    (case l19 => k_is)
    (case c19 => k_is)
    (case k19 => k_is)
    (case a20 => k_is)
    (case l20 => k_is)
    (case c20 => k_is)
    (case k20 => k_is)
    (case g20 => k_is)
    (case z0 => k_is)
    (case z1 => k_is)
    (case z2 => k_is)
    (case z3 => k_is)
    (case z4 => k_is)
    (case z5 => k_is)
    (case z6 => k_is)
    (case z7 => k_is)
    (case z8 => k_is)
    (case z9 => k_is)
    (case z10 => k_is)
    (case z11 => k_is)
    (case z12 => k_is)

