import PyProof.Rows.All
import Wide.All
import OpenK.AllK
import Wide.FinOn
import HandS.ForMost
import HandS.Exc
import HandS.TryOnly
import HandS.ExcOwn
import HandS.WordsExc
import HandS.IsInst
import HandS.ExcIs
import HandS.CallSlots
import HandS.Wide
import HandS.Walk
import HandS.SortInts
import HandS.SortOrd
import HandS.ExcInit
import HandS.ExcField
import KE.KExcIs
import KE.GoesMore
import KE.GoesEnum
import HandS.DeepEq
import HandS.Style
import HandS.New0
import KE.SortData
import KE.DataCmp
import HandS.TupMul
import PySem.Challenge.RW_crowdroads_k08_whole_no_way
section
set_option Elab.async false
set_option linter.all false
set_option maxRecDepth 100000
set_option maxHeartbeats 2000000
/-! A layer of pure data over the hand layer: what a piece of the program makes of plain data, no heap in sight. -/
namespace D
open PySem L2

/-! ### heaps -/
def fz (W : List Addr) (H : Hp) : Hp := fun a => if a ∈ W then none else H a
theorem fz_of {W : List Addr} {H : Hp} {a : Addr} (h : a ∉ W) : fz W H a = H a := if_neg h
theorem fz_in {W : List Addr} {H : Hp} {a : Addr} (h : a ∈ W) : fz W H a = none := if_pos h
theorem fz_some {W : List Addr} {H : Hp} {a : Addr} {o : HO} (e : fz W H a = some o) : a ∉ W ∧ H a = some o := by
  by_cases h : a ∈ W
  · rw [fz_in h] at e; cases e
  · rw [fz_of h] at e; exact ⟨h, e⟩
theorem fz_mono {W W' : List Addr} {H H' : Hp} (h : ∀ a o, a ∉ W → H a = some o → a ∉ W' ∧ H' a = some o) : Same (fz W H) (fz W' H') := fun a o e => by
  obtain ⟨n, e1⟩ := fz_some e
  obtain ⟨n2, e2⟩ := h a o n e1
  rw [fz_of n2]
  exact e2
theorem fz_sub {W : List Addr} {H : Hp} : Same (fz W H) H := fun a o e => (fz_some e).2
theorem fz_same {W : List Addr} {H H' : Hp} (e : Same H H') : Same (fz W H) (fz W H') := fz_mono fun a o n h => ⟨n, e a o h⟩
theorem fz_upd {W : List Addr} {H : Hp} {p : Addr} {o : HO} (h : p ∈ W) : fz W (upd H p o) = fz W H := by
  funext a
  by_cases n : a ∈ W
  · rw [fz_in n, fz_in n]
  · rw [fz_of n, fz_of n, upd_ne (fun e : a = p => n (by rw [e]; exact h))]
theorem same_new {H : Hp} {p : Addr} {o : HO} (h : H p = none) : Same H (upd H p o) := fun a u e => by
  rw [upd_ne (ne_of_none e h)]
  exact e
theorem same_t {K : PySem.W.Frag} {H H' : Hp} {a : Addr} {xs : List V} (e : Same H H') (h : SqT K H a xs) : SqT K H' a xs := by
  rcases h with (h | ⟨o, h⟩) | h
  · exact .inl (.inl (e _ _ h))
  · exact .inl (.inr ⟨o, e _ _ h⟩)
  · exact .inr h

/-- what K must say of a class whose instances have no fields -/
structure InsC (K : PySem.W.Frag) (C : Addr) : Prop where
  cls : Cls K C
  ha : PySem.W.findIn K (.ref C) "__class__" = some (some (.builtin "object.__class__"))
  hn : PySem.W.specialIn K (.builtin "object.__class__") "__get__" = some (some (.builtin "getset_descriptor.__get__"))
  ht : PySem.W.takesIn K (.builtin "object.__class__") = some true
  hm : PySem.W.mroIn K C (.type "object") = some true
  ki : PySem.W.kitOne K (.ref C) (.type "int") = some false
  kb : PySem.W.kitOne K (.ref C) (.type "bool") = some false
  kt : PySem.W.kitOne K (.ref C) (.type "tuple") = some false
  kl : PySem.W.kitOne K (.ref C) (.type "list") = some false
  ks : PySem.W.kitOne K (.ref C) (.type "str") = some false
/-! ### exceptions as data -/
/-- an exception that is over: its class, its dict -/
def ExZ (C : Addr) (d : Option Addr) (a : Addr) : HO := .ext fun h => ∃ (oe : Obj) (vs : Array Value), h.get? a = some oe ∧ Zc (.ref C) d oe ∧ oe.data = .fields vs
/-- what K must say of an exception's class -/
structure ExcK (K : PySem.W.Frag) (C : Addr) : Prop where
  e : ExcC K C
  ki : PySem.W.kitOne K (.ref C) (.type "int") = some false
  kb : PySem.W.kitOne K (.ref C) (.type "bool") = some false
  kt : PySem.W.kitOne K (.ref C) (.type "tuple") = some false
  kl : PySem.W.kitOne K (.ref C) (.type "list") = some false
  ks : PySem.W.kitOne K (.ref C) (.type "str") = some false
/-- an exception's fields -/
inductive FdR (K : PySem.W.Frag) (H : Hp) : Option Addr → PyData → Prop
  | n : FdR K H none (.bool true)
  | w {dx l : Addr} {n : Int} {ns : List Int} : H dx = some (.xd [("reached", .ref l), ("wish", .int n)]) → SqL K H l (ns.map V.int) → FdR K H (some dx) (.tuple [.int n, .list (ns.map .int)])
  | p {dx : Addr} {n : Int} : H dx = some (.xd [("part", .int n)]) → FdR K H (some dx) (.int n)
theorem FdR.same {K : PySem.W.Frag} {H H' : Hp} (e : Same H H') {d : Option Addr} {y : PyData} (h : FdR K H d y) : FdR K H' d y := by
  cases h with
  | n => exact .n
  | w h1 h2 => exact .w (e _ _ h1) (e.seq h2)
  | p h1 => exact .p (e _ _ h1)
/-! ### data in a heap -/
mutual
inductive R (K : PySem.W.Frag) (H : Hp) : V → PyData → Prop
  | non : R K H .non .none
  | bl (b : Bool) : R K H (.bl b) (.bool b)
  | int (i : Int) : R K H (.int i) (.int i)
  | str (x : Str) : R K H (.str x) (.str x)
  | lst {a : Addr} {xs : List V} {ds : List PyData} : SqL K H a xs → RA K H xs ds → R K H (.ref a) (.list ds)
  | tup {a : Addr} {xs : List V} {ds : List PyData} : SqT K H a xs → RA K H xs ds → R K H (.ref a) (.tuple ds)
  | dict0 {a : Addr} : H a = some (.dK []) → R K H (.ref a) (.dict [])
  | ins {a dx C : Addr} : H a = some (.ins C dx []) → InsC K C → R K H (.ref a) (.dict [(.int (C : Int), .none)])
  | exc {a C : Addr} {d : Option Addr} {y : PyData} : H a = some (ExZ C d a) → ExcK K C → FdR K H d y → R K H (.ref a) (.dict [(.int (C : Int), y)])
inductive RA (K : PySem.W.Frag) (H : Hp) : List V → List PyData → Prop
  | nil : RA K H [] []
  | cons {v : V} {vs : List V} {d : PyData} {ds : List PyData} : R K H v d → RA K H vs ds → RA K H (v :: vs) (d :: ds)
end
section
variable {K : PySem.W.Frag} {H H' : Hp}
mutual
theorem R.same (e : Same H H') : ∀ (d : PyData) (v : V), R K H v d → R K H' v d
  | .none, _, h => by cases h; exact .non
  | .bool b, _, h => by cases h; exact .bl b
  | .int i, _, h => by cases h; exact .int i
  | .str x, _, h => by cases h; exact .str x
  | .list ds, _, h => by
    cases h with
    | lst hs ha => exact .lst (e.seq hs) (RA.same e ds _ ha)
  | .tuple ds, _, h => by
    cases h with
    | tup hs ha => exact .tup (same_t e hs) (RA.same e ds _ ha)
  | .dict kvs, _, h => by
    cases h with
    | dict0 hs => exact .dict0 (e _ _ hs)
    | ins hs hc => exact .ins (e _ _ hs) hc
    | exc hs hc hf => exact .exc (e _ _ hs) hc (hf.same e)
theorem RA.same (e : Same H H') : ∀ (ds : List PyData) (vs : List V), RA K H vs ds → RA K H' vs ds
  | [], _, h => by cases h; exact .nil
  | d :: ds, _, h => by
    cases h with
    | cons h1 h2 => exact .cons (R.same e d _ h1) (RA.same e ds _ h2)
end
mutual
/-- no dict within -/
def noDict : PyData → Bool
  | .dict _ => false
  | .list ds => noDicts ds
  | .tuple ds => noDicts ds
  | _ => true
def noDicts : List PyData → Bool
  | [] => true
  | d :: ds => noDict d && noDicts ds
end
mutual
theorem R.dp : ∀ (d : PyData) (v : V), noDict d = true → R K H v d → Dp K H v d
  | .none, _, _, h => by cases h; exact .non
  | .bool b, _, _, h => by cases h; exact .bl b
  | .int i, _, _, h => by cases h; exact .int i
  | .str x, _, _, h => by cases h; exact .str x
  | .list ds, _, n, h => by
    cases h with
    | lst hs ha => exact .lst hs (RA.dp ds _ (by simpa [noDict] using n) ha)
  | .tuple ds, _, n, h => by
    cases h with
    | tup hs ha => exact .tup hs (RA.dp ds _ (by simpa [noDict] using n) ha)
  | .dict kvs, _, n, h => by simp [noDict] at n
theorem RA.dp : ∀ (ds : List PyData) (vs : List V), noDicts ds = true → RA K H vs ds → DpAll K H vs ds
  | [], _, _, h => by cases h; exact .nil
  | d :: ds, _, n, h => by
    have n' : noDict d = true ∧ noDicts ds = true := by simpa [noDicts] using n
    cases h with
    | cons h1 h2 => exact .cons (R.dp d _ n'.1 h1) (RA.dp ds _ n'.2 h2)
end
theorem RA.length : ∀ {ds : List PyData} {vs : List V}, RA K H vs ds → vs.length = ds.length
  | [], _, h => by cases h; rfl
  | d :: ds, _, h => by
    cases h with
    | cons h1 h2 => simp [RA.length h2]
theorem RA.get : ∀ {ds : List PyData} {vs : List V} {i : Nat} {x : PyData}, RA K H vs ds → ds[i]? = some x → ∃ v, vs[i]? = some v ∧ R K H v x
  | [], _, i, x, h, e => by simp at e
  | d :: ds, _, 0, x, h, e => by
    cases h with
    | cons h1 h2 =>
      cases (Option.some.inj e : d = x)
      exact ⟨_, rfl, h1⟩
  | d :: ds, _, i + 1, x, h, e => by
    cases h with
    | cons h1 h2 =>
      obtain ⟨v, h3, h4⟩ := RA.get (i := i) (x := x) h2 (by simpa using e)
      exact ⟨v, by simpa using h3, h4⟩
theorem RA.getV : ∀ {ds : List PyData} {vs : List V} {i : Nat} {v : V}, RA K H vs ds → vs[i]? = some v → ∃ x, ds[i]? = some x ∧ R K H v x
  | [], _, i, x, h, e => by cases h; simp at e
  | d :: ds, _, 0, x, h, e => by
    cases h with
    | cons h1 h2 =>
      cases Option.some.inj e
      exact ⟨_, rfl, h1⟩
  | d :: ds, _, i + 1, x, h, e => by
    cases h with
    | cons h1 h2 =>
      obtain ⟨v, h3, h4⟩ := RA.getV (i := i) (v := x) h2 (by simpa using e)
      exact ⟨v, by simpa using h3, h4⟩
theorem RA.append : ∀ {ds es : List PyData} {vs ws : List V}, RA K H vs ds → RA K H ws es → RA K H (vs ++ ws) (ds ++ es)
  | [], _, _, _, h, g => by cases h; exact g
  | d :: ds, es, _, ws, h, g => by
    cases h with
    | cons h1 h2 => exact .cons h1 (RA.append h2 g)
theorem RA.ints : ∀ {ns : List Int}, RA K H (ns.map V.int) (ns.map PyData.int)
  | [] => .nil
  | n :: ns => .cons (.int n) RA.ints
theorem RA.ofInts : ∀ {ns : List Int} {vs : List V}, RA K H vs (ns.map PyData.int) → vs = ns.map V.int
  | [], _, h => by cases h; rfl
  | n :: ns, _, h => by
    cases h with
    | cons h1 h2 =>
      cases h1
      rw [RA.ofInts h2]
      rfl
end

/-! ### what is owned: lists that nobody else holds, with data within -/
inductive OT where
  | d (x : PyData) | l (xs : List OT) | t (xs : List OT)
mutual
inductive Own (K : PySem.W.Frag) (W : List Addr) (H : Hp) : V → OT → List Addr → Prop
  | d {v : V} {x : PyData} : R K (fz W H) v x → Own K W H v (.d x) []
  | l {p : Addr} {vs : List V} {ts : List OT} {F : List Addr} : p ∈ W → H p = some (.lst vs) → Owns K W H vs ts F → Own K W H (.ref p) (.l ts) (p :: F)
  | t {a : Addr} {vs : List V} {ts : List OT} {F : List Addr} : fz W H a = some (.tup vs) → Owns K W H vs ts F → Own K W H (.ref a) (.t ts) F
inductive Owns (K : PySem.W.Frag) (W : List Addr) (H : Hp) : List V → List OT → List Addr → Prop
  | nil : Owns K W H [] [] []
  | cons {v : V} {t : OT} {F : List Addr} {vs : List V} {ts : List OT} {G : List Addr} : Own K W H v t F → Owns K W H vs ts G → Owns K W H (v :: vs) (t :: ts) (F ++ G)
end
section
variable {K : PySem.W.Frag} {W W' : List Addr} {H H' : Hp}
mutual
theorem Own.mono (e : Same (fz W H) (fz W' H')) : ∀ (t : OT) (v : V) (F : List Addr), (∀ a ∈ F, a ∈ W' ∧ H' a = H a) → Own K W H v t F → Own K W' H' v t F
  | .d x, v, F, _, h => by
    cases h with
    | d r => exact .d (R.same e x v r)
  | .l ts, v, F, hF, h => by
    cases h with
    | l hp hl ho =>
      refine .l (hF _ List.mem_cons_self).1 ((hF _ List.mem_cons_self).2.trans hl) (Owns.mono e ts _ _ (fun a ha => hF a (List.mem_cons_of_mem _ ha)) ho)
  | .t ts, v, F, hF, h => by
    cases h with
    | t hs ho => exact .t (e _ _ hs) (Owns.mono e ts _ _ hF ho)
theorem Owns.mono (e : Same (fz W H) (fz W' H')) : ∀ (ts : List OT) (vs : List V) (F : List Addr), (∀ a ∈ F, a ∈ W' ∧ H' a = H a) → Owns K W H vs ts F → Owns K W' H' vs ts F
  | [], vs, F, _, h => by cases h; exact .nil
  | t :: ts, vs, F, hF, h => by
    cases h with
    | cons h1 h2 => exact .cons (Own.mono e t _ _ (fun a ha => hF a (List.mem_append_left _ ha)) h1) (Owns.mono e ts _ _ (fun a ha => hF a (List.mem_append_right _ ha)) h2)
end
mutual
theorem Own.sub : ∀ (t : OT) (v : V) (F : List Addr), Own K W H v t F → ∀ a ∈ F, a ∈ W ∧ ∃ vs, H a = some (.lst vs)
  | .d x, v, F, h => by cases h; intro a ha; cases ha
  | .l ts, v, F, h => by
    cases h with
    | l hp hl ho =>
      intro a ha
      rcases List.mem_cons.mp ha with e | ha
      · subst e; exact ⟨hp, _, hl⟩
      · exact Owns.sub ts _ _ ho a ha
  | .t ts, v, F, h => by
    cases h with
    | t hs ho => exact Owns.sub ts _ _ ho
theorem Owns.sub : ∀ (ts : List OT) (vs : List V) (F : List Addr), Owns K W H vs ts F → ∀ a ∈ F, a ∈ W ∧ ∃ vs, H a = some (.lst vs)
  | [], vs, F, h => by cases h; intro a ha; cases ha
  | t :: ts, vs, F, h => by
    cases h with
    | cons h1 h2 =>
      intro a ha
      rcases List.mem_append.mp ha with ha | ha
      · exact Own.sub t _ _ h1 a ha
      · exact Owns.sub ts _ _ h2 a ha
end
mutual
/-- the data of it -/
def OT.dat : OT → PyData
  | .d x => x
  | .l ts => .list (dats ts)
  | .t ts => .tuple (dats ts)
def dats : List OT → List PyData
  | [] => []
  | t :: ts => t.dat :: dats ts
end
mutual
/-- owned things read as data of the whole heap -/
theorem Own.rd : ∀ (t : OT) (v : V) (F : List Addr), Own K W H v t F → (∀ a o, a ∉ W → H a = some o → a ∉ W' ∧ H' a = some o) → (∀ a ∈ F, a ∉ W' ∧ H' a = H a) → R K (fz W' H') v t.dat
  | .d x, v, F, h, e, _ => by
    cases h with
    | d r => exact R.same (fz_mono e) x v r
  | .l ts, v, F, h, e, hF => by
    cases h with
    | l hp hl ho =>
      refine .lst (.inl (.inl ?_)) (Owns.rd ts _ _ ho e fun a ha => hF a (List.mem_cons_of_mem _ ha))
      rw [fz_of (hF _ List.mem_cons_self).1, (hF _ List.mem_cons_self).2]
      exact hl
  | .t ts, v, F, h, e, hF => by
    cases h with
    | t hs ho => exact .tup (.inl (.inl (fz_mono e _ _ hs))) (Owns.rd ts _ _ ho e hF)
theorem Owns.rd : ∀ (ts : List OT) (vs : List V) (F : List Addr), Owns K W H vs ts F → (∀ a o, a ∉ W → H a = some o → a ∉ W' ∧ H' a = some o) → (∀ a ∈ F, a ∉ W' ∧ H' a = H a) → RA K (fz W' H') vs (dats ts)
  | [], vs, F, h, _, _ => by cases h; exact .nil
  | t :: ts, vs, F, h, e, hF => by
    cases h with
    | cons h1 h2 => exact .cons (Own.rd t _ _ h1 e fun a ha => hF a (List.mem_append_left _ ha)) (Owns.rd ts _ _ h2 e fun a ha => hF a (List.mem_append_right _ ha))
end
theorem Owns.get : ∀ {ts : List OT} {vs : List V} {F : List Addr} {i : Nat} {t : OT}, Owns K W H vs ts F → ts[i]? = some t → ∃ v G, vs[i]? = some v ∧ Own K W H v t G ∧ (∀ a ∈ G, a ∈ F) ∧ (F.Nodup → G.Nodup)
  | [], _, _, i, x, h, e => by simp at e
  | d :: ds, _, _, 0, x, h, e => by
    cases h with
    | cons h1 h2 =>
      cases (Option.some.inj e : d = x)
      exact ⟨_, _, rfl, h1, fun a ha => List.mem_append_left _ ha, fun n => (List.nodup_append.mp n).1⟩
  | d :: ds, _, _, i + 1, x, h, e => by
    cases h with
    | cons h1 h2 =>
      obtain ⟨v, G, h3, h4, h5, h6⟩ := Owns.get (i := i) (t := x) h2 (by simpa using e)
      exact ⟨v, G, by simpa using h3, h4, fun a ha => List.mem_append_right _ (h5 a ha), fun n => h6 (List.nodup_append.mp n).2.1⟩
theorem Owns.length : ∀ {ts : List OT} {vs : List V} {F : List Addr}, Owns K W H vs ts F → vs.length = ts.length
  | [], _, _, h => by cases h; rfl
  | d :: ds, _, _, h => by
    cases h with
    | cons h1 h2 => simp [Owns.length h2]
theorem Owns.ofRA : ∀ {ds : List PyData} {vs : List V}, RA K (fz W H) vs ds → Owns K W H vs (ds.map .d) []
  | [], _, h => by cases h; exact .nil
  | d :: ds, _, h => by
    cases h with
    | cons h1 h2 => exact .cons (F := []) (G := []) (.d h1) (Owns.ofRA h2)
end
theorem dats_d : ∀ (xs : List PyData), dats (xs.map .d) = xs
  | [] => rfl
  | x :: xs => by simp [dats, OT.dat, dats_d xs]
theorem dats_len : ∀ (ts : List OT), (dats ts).length = ts.length
  | [] => rfl
  | x :: xs => by simp [dats, dats_len xs]
theorem dats_get : ∀ (ts : List OT) (i : Nat), (dats ts)[i]? = ts[i]?.map OT.dat
  | [], i => by simp [dats]
  | x :: xs, 0 => by simp [dats]
  | x :: xs, i + 1 => by simp [dats, dats_get xs i]

/-! ### a frame's names -/
inductive Sl where
  | no | o (t : OT) | raw (v : V) | fx (v : V) (x : PyData)
abbrev Sl.v (x : PyData) : Sl := .o (.d x)
inductive Slots (K : PySem.W.Frag) (W : List Addr) (H : Hp) : L2.St → List Sl → List Addr → Prop
  | nil : Slots K W H [] [] []
  | no {x : Option V} {σ : L2.St} {E : List Sl} {F : List Addr} : Slots K W H σ E F → Slots K W H (x :: σ) (.no :: E) F
  | raw {v : V} {σ : L2.St} {E : List Sl} {F : List Addr} : Slots K W H σ E F → Slots K W H (some v :: σ) (.raw v :: E) F
  | fx {v : V} {x : PyData} {σ : L2.St} {E : List Sl} {F : List Addr} : R K (fz W H) v x → Slots K W H σ E F → Slots K W H (some v :: σ) (.fx v x :: E) F
  | o {v : V} {t : OT} {G : List Addr} {σ : L2.St} {E : List Sl} {F : List Addr} : Own K W H v t G → Slots K W H σ E F → Slots K W H (some v :: σ) (.o t :: E) (G ++ F)
section
variable {K : PySem.W.Frag} {W W' : List Addr} {H H' : Hp} {σ : L2.St} {E : List Sl} {F : List Addr}
theorem Slots.mono (e : Same (fz W H) (fz W' H')) (h : Slots K W H σ E F) (hF : ∀ a ∈ F, a ∈ W' ∧ H' a = H a) : Slots K W' H' σ E F := by
  induction h with
  | nil => exact .nil
  | no _ ih => exact .no (ih hF)
  | raw _ ih => exact .raw (ih hF)
  | fx r _ ih => exact .fx (R.same e _ _ r) (ih hF)
  | o ho _ ih => exact .o (Own.mono e _ _ _ (fun a ha => hF a (List.mem_append_left _ ha)) ho) (ih fun a ha => hF a (List.mem_append_right _ ha))
theorem Slots.sub (h : Slots K W H σ E F) : ∀ a ∈ F, a ∈ W ∧ ∃ vs, H a = some (.lst vs) := by
  induction h with
  | nil => intro a ha; cases ha
  | no _ ih => exact ih
  | raw _ ih => exact ih
  | fx _ _ ih => exact ih
  | o ho _ ih =>
    intro a ha
    rcases List.mem_append.mp ha with ha | ha
    · exact Own.sub _ _ _ ho a ha
    · exact ih a ha
theorem Slots.get (h : Slots K W H σ E F) : ∀ {i : Nat} {t : OT}, E[i]? = some (.o t) → ∃ v G, σ[i]? = some (some v) ∧ Own K W H v t G ∧ (∀ a ∈ G, a ∈ F) ∧ (F.Nodup → G.Nodup) := by
  induction h with
  | nil => intro i t e; simp at e
  | no _ ih =>
    intro i t e
    cases i with
    | zero => simp at e
    | succ i => exact ih (by simpa using e)
  | raw _ ih =>
    intro i t e
    cases i with
    | zero => simp at e
    | succ i => exact ih (by simpa using e)
  | fx _ _ ih =>
    intro i t e
    cases i with
    | zero => simp at e
    | succ i => exact ih (by simpa using e)
  | o ho _ ih =>
    intro i t e
    cases i with
    | zero =>
      cases Option.some.inj e
      exact ⟨_, _, rfl, ho, fun a ha => List.mem_append_left _ ha, fun n => (List.nodup_append.mp n).1⟩
    | succ i =>
      obtain ⟨v, G, h1, h2, h3, h4⟩ := ih (by simpa using e)
      exact ⟨v, G, h1, h2, fun a ha => List.mem_append_right _ (h3 a ha), fun n => h4 (List.nodup_append.mp n).2.1⟩
theorem Slots.getRaw (h : Slots K W H σ E F) : ∀ {i : Nat} {v : V}, E[i]? = some (.raw v) → σ[i]? = some (some v) := by
  induction h with
  | nil => intro i t e; simp at e
  | no _ ih =>
    intro i t e
    cases i with
    | zero => simp at e
    | succ i => exact ih (by simpa using e)
  | raw _ ih =>
    intro i t e
    cases i with
    | zero =>
      cases Option.some.inj e
      rfl
    | succ i => exact ih (by simpa using e)
  | fx _ _ ih =>
    intro i t e
    cases i with
    | zero => simp at e
    | succ i => exact ih (by simpa using e)
  | o ho _ ih =>
    intro i t e
    cases i with
    | zero => simp at e
    | succ i => exact ih (by simpa using e)
/-- a name gets something new -/
theorem Slots.set {v : V} {t : OT} {G : List Addr} (ho : Own K W H v t G) (nG : G.Nodup) (h : Slots K W H σ E F) : ∀ (i : Nat), i < E.length → F.Nodup → (∀ a ∈ G, a ∉ F) →
    ∃ F', Slots K W H (σ.set i (some v)) (E.set i (.o t)) F' ∧ F'.Nodup ∧ ∀ a ∈ F', a ∈ F ∨ a ∈ G := by
  induction h with
  | nil => intro i hi; simp at hi
  | no hs ih =>
    intro i hi nF dj
    cases i with
    | zero => exact ⟨_, .o ho hs, List.nodup_append.mpr ⟨nG, nF, fun a ha b hb e => dj a ha (e ▸ hb)⟩, fun a ha => (List.mem_append.mp ha).symm⟩
    | succ i =>
      obtain ⟨F', h1, h2, h3⟩ := ih i (by simpa using hi) nF dj
      exact ⟨F', .no h1, h2, h3⟩
  | raw hs ih =>
    intro i hi nF dj
    cases i with
    | zero => exact ⟨_, .o ho hs, List.nodup_append.mpr ⟨nG, nF, fun a ha b hb e => dj a ha (e ▸ hb)⟩, fun a ha => (List.mem_append.mp ha).symm⟩
    | succ i =>
      obtain ⟨F', h1, h2, h3⟩ := ih i (by simpa using hi) nF dj
      exact ⟨F', .raw h1, h2, h3⟩
  | fx r hs ih =>
    intro i hi nF dj
    cases i with
    | zero => exact ⟨_, .o ho hs, List.nodup_append.mpr ⟨nG, nF, fun a ha b hb e => dj a ha (e ▸ hb)⟩, fun a ha => (List.mem_append.mp ha).symm⟩
    | succ i =>
      obtain ⟨F', h1, h2, h3⟩ := ih i (by simpa using hi) nF dj
      exact ⟨F', .fx r h1, h2, h3⟩
  | @o v1 t1 G1 σ1 E1 F1 ho1 hs ih =>
    intro i hi nF dj
    obtain ⟨n1, n2, n3⟩ := List.nodup_append.mp nF
    cases i with
    | zero => exact ⟨_, .o ho hs, List.nodup_append.mpr ⟨nG, n2, fun a ha b hb e => dj a ha (List.mem_append_right _ (e ▸ hb))⟩, fun a ha => (List.mem_append.mp ha).elim .inr fun q => .inl (List.mem_append_right _ q)⟩
    | succ i =>
      obtain ⟨F', h1, h2, h3⟩ := ih i (by simpa using hi) n2 (fun a ha hb => dj a ha (List.mem_append_right _ hb))
      refine ⟨_, .o ho1 h1, List.nodup_append.mpr ⟨n1, h2, fun a ha b hb e => ?_⟩, fun a ha => ?_⟩
      · subst e
        rcases h3 a hb with q | q
        · exact n3 a ha a q rfl
        · exact dj a q (List.mem_append_left _ ha)
      · rcases List.mem_append.mp ha with q | q
        · exact .inl (List.mem_append_left _ q)
        · exact (h3 a q).imp (List.mem_append_right _) id
theorem Slots.setRaw {v : V} (h : Slots K W H σ E F) : ∀ (i : Nat), i < E.length → F.Nodup →
    ∃ F', Slots K W H (σ.set i (some v)) (E.set i (.raw v)) F' ∧ F'.Nodup ∧ ∀ a ∈ F', a ∈ F := by
  induction h with
  | nil => intro i hi; simp at hi
  | no hs ih =>
    intro i hi nF
    cases i with
    | zero => exact ⟨_, .raw hs, nF, fun a ha => ha⟩
    | succ i =>
      obtain ⟨F', h1, h2, h3⟩ := ih i (by simpa using hi) nF
      exact ⟨F', .no h1, h2, h3⟩
  | raw hs ih =>
    intro i hi nF
    cases i with
    | zero => exact ⟨_, .raw hs, nF, fun a ha => ha⟩
    | succ i =>
      obtain ⟨F', h1, h2, h3⟩ := ih i (by simpa using hi) nF
      exact ⟨F', .raw h1, h2, h3⟩
  | fx r hs ih =>
    intro i hi nF
    cases i with
    | zero => exact ⟨_, .raw hs, nF, fun a ha => ha⟩
    | succ i =>
      obtain ⟨F', h1, h2, h3⟩ := ih i (by simpa using hi) nF
      exact ⟨F', .fx r h1, h2, h3⟩
  | @o v1 t1 G1 σ1 E1 F1 ho1 hs ih =>
    intro i hi nF
    obtain ⟨n1, n2, n3⟩ := List.nodup_append.mp nF
    cases i with
    | zero => exact ⟨_, .raw hs, n2, fun a ha => List.mem_append_right _ ha⟩
    | succ i =>
      obtain ⟨F', h1, h2, h3⟩ := ih i (by simpa using hi) n2
      refine ⟨_, .o ho1 h1, List.nodup_append.mpr ⟨n1, h2, fun a ha b hb e => n3 a ha b (h3 b hb) e⟩, fun a ha => ?_⟩
      rcases List.mem_append.mp ha with q | q
      · exact List.mem_append_left _ q
      · exact List.mem_append_right _ (h3 a q)
theorem Slots.length (h : Slots K W H σ E F) : σ.length = E.length := by
  induction h with
  | nil => rfl
  | no _ ih => simp [ih]
  | raw _ ih => simp [ih]
  | fx _ _ ih => simp [ih]
  | o _ _ ih => simp [ih]
theorem Slots.start (ws : List V) (xs : List PyData) (k : Nat) (h : RA K (fz W H) ws xs) : Slots K W H (ws.map some ++ List.replicate k none) (xs.map Sl.v ++ List.replicate k .no) [] := by
  induction xs generalizing ws with
  | nil =>
    cases h
    show Slots K W H (List.replicate k none) (List.replicate k .no) []
    induction k with
    | zero => exact .nil
    | succ k ih => exact .no ih
  | cons x xs ih =>
    cases h with
    | cons h1 h2 => exact .o (G := []) (.d h1) (ih _ h2)
end
/-- the frame's names hold E; M: hidden by those who called; L: the lists that are this frame's own -/
structure EnvR (K : PySem.W.Frag) (M L : List Addr) (H : Hp) (σ : L2.St) (E : List Sl) : Prop where
  ex : ∃ F, Slots K (L ++ M) H σ E F ∧ F.Nodup ∧ ∀ a ∈ F, a ∈ L
  dom : ∀ a, a ∈ L ++ M → H a ≠ none
  dj : ∀ a, a ∈ L → a ∉ M
theorem not_none_same {H H' : Hp} {a : Addr} (e : Same H H') (h : H a ≠ none) : H' a ≠ none := fun q => by
  cases g : H a with
  | none => exact h g
  | some o => rw [e a o g] at q; cases q
theorem eq_same {H H' : Hp} {a : Addr} {o : HO} (e : Same H H') (h : H a = some o) : H' a = H a := by rw [h, e a o h]
section
variable {K : PySem.W.Frag} {M L L' : List Addr} {H H' : Hp} {σ : L2.St} {E : List Sl}
theorem EnvR.same (e : Same H H') (h : EnvR K M L H σ E) : EnvR K M L H' σ E := by
  obtain ⟨⟨F, hs, nF, hL⟩, dom, dj⟩ := h
  refine ⟨⟨F, hs.mono (fz_same e) (fun a ha => ?_), nF, hL⟩, fun a ha => not_none_same e (dom a ha), dj⟩
  obtain ⟨h1, vs, h2⟩ := hs.sub a ha
  exact ⟨h1, eq_same e h2⟩
/-- new lists come -/
theorem EnvR.more {F : List Addr} (e : Same H H') (hF : ∀ a ∈ F, H a = none ∧ H' a ≠ none) (h : EnvR K M L H σ E) : EnvR K M (F ++ L) H' σ E := by
  obtain ⟨⟨G, hs, nG, hL⟩, dom, dj⟩ := h
  refine ⟨⟨G, hs.mono (fz_mono fun a o n q => ⟨fun z => ?_, e a o q⟩) (fun a ha => ?_), nG, fun a ha => List.mem_append_right _ (hL a ha)⟩, fun a ha => ?_, fun a ha => ?_⟩
  · rw [List.append_assoc] at z
    rcases List.mem_append.mp z with z | z
    · rw [(hF a z).1] at q; cases q
    · exact n z
  · obtain ⟨h1, vs, h2⟩ := hs.sub a ha
    exact ⟨by rw [List.append_assoc]; exact List.mem_append_right _ h1, eq_same e h2⟩
  · rw [List.append_assoc] at ha
    rcases List.mem_append.mp ha with z | z
    · exact (hF a z).2
    · exact not_none_same e (dom a z)
  · rcases List.mem_append.mp ha with z | z
    · exact fun m => dom a (List.mem_append_right _ m) (hF a z).1
    · exact dj a z
theorem EnvR.get {i : Nat} {t : OT} (h : EnvR K M L H σ E) (e : E[i]? = some (.o t)) : ∃ v G, σ[i]? = some (some v) ∧ Own K (L ++ M) H v t G ∧ (∀ a ∈ G, a ∈ L) ∧ G.Nodup := by
  obtain ⟨⟨F, hs, nF, hL⟩, dom, dj⟩ := h
  obtain ⟨v, G, h1, h2, h3, h4⟩ := hs.get e
  exact ⟨v, G, h1, h2, fun a ha => hL a (h3 a ha), h4 nF⟩
theorem EnvR.getD {i : Nat} {x : PyData} (h : EnvR K M L H σ E) (e : E[i]? = some (.o (.d x))) : ∃ v, σ[i]? = some (some v) ∧ R K (fz (L ++ M) H) v x := by
  obtain ⟨v, G, h1, h2, _⟩ := h.get e
  cases h2 with
  | d r => exact ⟨v, h1, r⟩
theorem EnvR.setD {i : Nat} {v : V} {x : PyData} (h : EnvR K M L H σ E) (hi : i < E.length) (r : R K (fz (L ++ M) H) v x) : EnvR K M L H (σ.set i (some v)) (E.set i (.o (.d x))) := by
  obtain ⟨⟨F, hs, nF, hL⟩, dom, dj⟩ := h
  obtain ⟨F', h1, h2, h3⟩ := hs.set (G := []) (.d r) List.nodup_nil i hi nF (fun a ha => by cases ha)
  exact ⟨⟨F', h1, h2, fun a ha => (h3 a ha).elim (hL a) fun z => by cases z⟩, dom, dj⟩
theorem EnvR.setRaw {i : Nat} {v : V} (h : EnvR K M L H σ E) (hi : i < E.length) : EnvR K M L H (σ.set i (some v)) (E.set i (.raw v)) := by
  obtain ⟨⟨F, hs, nF, hL⟩, dom, dj⟩ := h
  obtain ⟨F', h1, h2, h3⟩ := hs.setRaw i hi nF
  exact ⟨⟨F', h1, h2, fun a ha => hL a (h3 a ha)⟩, dom, dj⟩
/-- a name gets something new, its lists become the frame's -/
theorem EnvR.setN {i : Nat} {v : V} {t : OT} {F : List Addr} (h : EnvR K M L H σ E) (hi : i < E.length) (e : Same H H') (hF : ∀ a ∈ F, H a = none) (nF : F.Nodup) (ho : Own K (F ++ (L ++ M)) H' v t F) :
    EnvR K M (F ++ L) H' (σ.set i (some v)) (E.set i (.o t)) := by
  have h2 : EnvR K M (F ++ L) H' σ E := h.more e fun a ha => ⟨hF a ha, fun z => by
    obtain ⟨_, vs, q⟩ := Own.sub _ _ _ ho a ha
    rw [q] at z; cases z⟩
  obtain ⟨⟨G0, hs0, nG0, hL0⟩, dom0, dj0⟩ := h
  have hs2 : Slots K (F ++ L ++ M) H' σ E G0 := hs0.mono (fz_mono fun a o n q => ⟨fun z => by
      rw [List.append_assoc] at z
      rcases List.mem_append.mp z with z | z
      · rw [hF a z] at q; cases q
      · exact n z, e a o q⟩) (fun a ha => by
        obtain ⟨h1, vs, h3⟩ := hs0.sub a ha
        exact ⟨by rw [List.append_assoc]; exact List.mem_append_right _ h1, eq_same e h3⟩)
  rw [← List.append_assoc] at ho
  obtain ⟨F', h3, h4, h5⟩ := hs2.set ho nF i hi nG0 (fun a ha hb => dom0 a (List.mem_append_left _ (hL0 a hb)) (hF a ha))
  exact ⟨⟨F', h3, h4, fun a ha => (h5 a ha).elim (fun z => List.mem_append_right _ (hL0 a z)) fun z => List.mem_append_left _ z⟩, h2.dom, h2.dj⟩
end
end D

end

section
set_option Elab.async false
set_option linter.all false
set_option maxRecDepth 100000
set_option maxHeartbeats 2000000
namespace D
open PySem L2

/-! ### expressions -/
def EvE (K : PySem.W.Frag) (te : TE) (E : List Sl) (x : PyData) : Prop :=
  ∀ (M L : List Addr) (H : Hp) (σ : L2.St) (Q : VK), EnvR K M L H σ E → (∀ v H', Same H H' → R K (fz (L ++ M) H') v x → Q v H') → te σ H Q
def EvA (K : PySem.W.Frag) (ta : TA) (E : List Sl) (xs : List PyData) : Prop :=
  ∀ (M L : List Addr) (H : Hp) (σ : L2.St) (Q : List V → Hp → Prop), EnvR K M L H σ E → (∀ vs H', Same H H' → RA K (fz (L ++ M) H') vs xs → Q vs H') → ta σ H Q
/-- what is new, nobody holds it -/
def EvN (K : PySem.W.Frag) (te : TE) (E : List Sl) (t : OT) : Prop :=
  ∀ (M L : List Addr) (H : Hp) (σ : L2.St) (Q : VK), EnvR K M L H σ E → (∀ v H' F, Same H H' → F.Nodup → (∀ a ∈ F, H a = none) → Own K (F ++ (L ++ M)) H' v t F → Q v H') → te σ H Q
/-- what the frame holds -/
def EvB (K : PySem.W.Frag) (te : TE) (E : List Sl) (t : OT) : Prop :=
  ∀ (M L : List Addr) (H : Hp) (σ : L2.St) (Q : VK), EnvR K M L H σ E → (∀ v H' F, Same H H' → F.Nodup → (∀ a ∈ F, a ∈ L) → Own K (L ++ M) H' v t F → Q v H') → te σ H Q
def EvT (K : PySem.W.Frag) (tt : TT) (E : List Sl) (b : Bool) : Prop :=
  ∀ (M L : List Addr) (H : Hp) (σ : L2.St) (Q : Bool → Hp → Prop), EnvR K M L H σ E → (∀ H', Same H H' → Q b H') → tt σ H Q
structure DE (X : Cx) (E : List Sl) (e : Expr) (x : PyData) : Prop where
  ex : ∃ te, PE X e te ∧ EvE X.K te E x
structure DN (X : Cx) (E : List Sl) (e : Expr) (t : OT) : Prop where
  ex : ∃ te, PE X e te ∧ EvN X.K te E t
structure DB (X : Cx) (E : List Sl) (e : Expr) (t : OT) : Prop where
  ex : ∃ te, PE X e te ∧ EvB X.K te E t
structure DA (X : Cx) (E : List Sl) (es : List Expr) (xs : List PyData) : Prop where
  ex : ∃ ta, PA X es ta ∧ EvA X.K ta E xs
structure DT (X : Cx) (E : List Sl) (e : Expr) (b : Bool) : Prop where
  ex : ∃ tt, PT X e tt ∧ EvT X.K tt E b
structure DW (X : Cx) (E : List Sl) (e : Expr) (b : Bool) : Prop where
  ex : ∃ tt, PW X e tt ∧ EvT X.K tt E b
section
variable {X : Cx} {E : List Sl} {e a b c : Expr} {es : List Expr} {x y z : PyData} {xs : List PyData} {pos : Pos} {i j : Int} {p q : Bool}
theorem DE.toN (h : DE X E e x) : DN X E e (.d x) := by
  obtain ⟨te, h1, h2⟩ := h
  exact ⟨te, h1, fun M L H σ Q I k => h2 M L H σ Q I fun v H' s r => k v H' [] s List.nodup_nil (fun a ha => by cases ha) (.d r)⟩
theorem DE.toB (h : DE X E e x) : DB X E e (.d x) := by
  obtain ⟨te, h1, h2⟩ := h
  exact ⟨te, h1, fun M L H σ Q I k => h2 M L H σ Q I fun v H' s r => k v H' [] s List.nodup_nil (fun a ha => by cases ha) (.d r)⟩
theorem DB.toE (h : DB X E e (.d x)) : DE X E e x := by
  obtain ⟨te, h1, h2⟩ := h
  exact ⟨te, h1, fun M L H σ Q I k => h2 M L H σ Q I fun v H' F s _ _ o => by
    cases o with
    | d r => exact k v H' s r⟩
/-- what is new may be shared from now on -/
theorem DN.toE {t : OT} (h : DN X E e t) : DE X E e t.dat := by
  obtain ⟨te, h1, h2⟩ := h
  refine ⟨te, h1, fun M L H σ Q I k => h2 M L H σ Q I fun v H' F s n hF o => k v H' s ?_⟩
  refine Own.rd _ _ _ o (fun a o n e => ⟨fun z => n (List.mem_append_right _ z), e⟩) fun a ha => ⟨fun z => ?_, rfl⟩
  exact I.dom a z (hF a ha)
theorem DE.cast (h : DE X E e x) (q : x = y) : DE X E e y := q ▸ h
theorem DN.cast {t u : OT} (h : DN X E e t) (q : t = u) : DN X E e u := q ▸ h
theorem de_of {te : TE} (h1 : PE X e te) (h2 : EvE X.K te E x) : DE X E e x := ⟨te, h1, h2⟩

theorem db_v {t : OT} (i : Nat) (h : PE X e (tVar i)) (g : E[i]? = some (.o t) := by rfl) : DB X E e t :=
  ⟨_, h, fun M L H σ Q I k => by
    obtain ⟨v, G, h1, h2, h3, h4⟩ := I.get g
    exact ⟨v, h1, k v H G (Same.refl H) h4 h3 h2⟩⟩
theorem de_v (i : Nat) (h : PE X e (tVar i)) (g : E[i]? = some (.o (.d x)) := by rfl) : DE X E e x := (db_v i h g).toE
theorem de_c {v : V} (h : PE X e (tC v)) (r : ∀ K H, R K H v x) : DE X E e x := ⟨_, h, fun M L H σ Q I k => k v H (Same.refl H) (r _ _)⟩
theorem de_int {j} : DE X E (.Constant (.int i) j pos) (.int i) := de_c pe_int fun _ _ => .int i
theorem de_bl {j} : DE X E (.Constant (.bool p) j pos) (.bool p) := de_c pe_bl fun _ _ => .bl p
theorem de_non {j} : DE X E (.Constant .none j pos) .none := de_c pe_non fun _ _ => .non
theorem de_str {j} {s : Str} : DE X E (.Constant (.str s) j pos) (.str s) := de_c pe_str fun _ _ => .str s
/-- a constant of the module that is data -/
theorem de_glob {s : Str} {v : V} {u : Value} (hg : Gl X s) (hm : X.mg s = some u) (rv : RelV v u) (r : ∀ M L H σ, EnvR X.K M L H σ E → R X.K (fz (L ++ M) H) v x) (hd : (s == ("__debug__" : Str)) = false := by decide) : DE X E (.Name s pos) x :=
  ⟨_, pe_glob hg hm rv hd, fun M L H σ Q I k => k v H (Same.refl H) (r M L H σ I)⟩

/-! two operands -/
theorem ev_2 {r : R2} {ta tb : TE} (ha : EvE X.K ta E x) (hb : EvE X.K tb E y) (hr : ∀ (M L : List Addr) (H : Hp) (σ : L2.St) (v w : V) (Q : VK), EnvR X.K M L H σ E → R X.K (fz (L ++ M) H) v x → R X.K (fz (L ++ M) H) w y → (∀ u H', Same H H' → R X.K (fz (L ++ M) H') u z → Q u H') → r v w H Q) : EvE X.K (tOp r ta tb) E z :=
  fun M L H σ Q I k => ha M L H σ _ I fun v H1 s1 r1 => hb M L H1 σ _ (I.same s1) fun w H2 s2 r2 =>
    hr M L H2 σ v w Q (I.same (s1.trans s2)) (R.same (fz_same s2) x v r1) r2 fun u H3 s3 r3 => k u H3 ((s1.trans s2).trans s3) r3
theorem de_bin {op : Operator} {r : R2} (ho : OpR X (binaryOp op) r) (ha : DE X E a x) (hb : DE X E b y) (hr : ∀ (M L : List Addr) (H : Hp) (σ : L2.St) (v w : V) (Q : VK), EnvR X.K M L H σ E → R X.K (fz (L ++ M) H) v x → R X.K (fz (L ++ M) H) w y → (∀ u H', Same H H' → R X.K (fz (L ++ M) H') u z → Q u H') → r v w H Q) : DE X E (.BinOp a op b pos) z := by
  obtain ⟨ta, a1, a2⟩ := ha
  obtain ⟨tb, b1, b2⟩ := hb
  exact ⟨_, pe_op ho a1 b1, ev_2 a2 b2 hr⟩
theorem de_cmp {op : CmpOp} {r : R2} (ho : OpR X (compareOp op) r) (ha : DE X E a x) (hb : DE X E b y) (hr : ∀ (M L : List Addr) (H : Hp) (σ : L2.St) (v w : V) (Q : VK), EnvR X.K M L H σ E → R X.K (fz (L ++ M) H) v x → R X.K (fz (L ++ M) H) w y → (∀ u H', Same H H' → R X.K (fz (L ++ M) H') u z → Q u H') → r v w H Q)
    (hm : behindInMarks op b = false) : DE X E (.Compare a [op] [b] pos) z := by
  obtain ⟨ta, a1, a2⟩ := ha
  obtain ⟨tb, b1, b2⟩ := hb
  exact ⟨_, pe_cmpR ho a1 b1 hm, ev_2 a2 b2 hr⟩
theorem dt_cmp {op : CmpOp} {r : R2} (ho : OpR X (compareOp op) r) (ha : DE X E a x) (hb : DE X E b y) (hr : ∀ (M L : List Addr) (H : Hp) (σ : L2.St) (v w : V) (Q : VK), EnvR X.K M L H σ E → R X.K (fz (L ++ M) H) v x → R X.K (fz (L ++ M) H) w y → (∀ u H', Same H H' → R X.K (fz (L ++ M) H') u (.bool p) → Q u H') → r v w H Q)
    (hm : behindInMarks op b = false) : DT X E (.Compare a [op] [b] pos) p := by
  obtain ⟨ta, a1, a2⟩ := ha
  obtain ⟨tb, b1, b2⟩ := hb
  refine ⟨_, pt_cmpR ho a1 b1 hm, fun M L H σ Q I k => ?_⟩
  refine ev_2 a2 b2 hr M L H σ _ I fun v H' s r => ?_
  cases r
  exact ⟨p, rfl, k H' s⟩
/-- the operators on whole numbers -/
theorem rI_ok {C : Int → Int → Prop} {g : Int → Int → V} (hc : C i j) {M L : List Addr} {H : Hp} {v w : V} {Q : VK} (r1 : R X.K (fz (L ++ M) H) v (.int i)) (r2 : R X.K (fz (L ++ M) H) w (.int j)) (r3 : R X.K (fz (L ++ M) H) (g i j) z) (k : ∀ u H', Same H H' → R X.K (fz (L ++ M) H') u z → Q u H') : rI C g v w H Q := by
  cases r1; cases r2
  exact ⟨i, j, rfl, rfl, hc, k _ H (Same.refl H) r3⟩
theorem rI0_ok {g : Int → Int → V} {M L : List Addr} {H : Hp} {v w : V} {Q : VK} (r1 : R X.K (fz (L ++ M) H) v (.int i)) (r2 : R X.K (fz (L ++ M) H) w (.int j)) (r3 : R X.K (fz (L ++ M) H) (g i j) z) (k : ∀ u H', Same H H' → R X.K (fz (L ++ M) H') u z → Q u H') : rI0 g v w H Q := by
  cases r1; cases r2
  exact ⟨i, j, rfl, rfl, k _ H (Same.refl H) r3⟩
theorem de_add (ha : DE X E a (.int i)) (hb : DE X E b (.int j)) : DE X E (.BinOp a .Add b pos) (.int (i + j)) := de_bin op_add ha hb fun M L H σ v w Q I r1 r2 k => rI0_ok r1 r2 (.int _) k
theorem de_sub (ha : DE X E a (.int i)) (hb : DE X E b (.int j)) : DE X E (.BinOp a .Sub b pos) (.int (i - j)) := de_bin op_sub ha hb fun M L H σ v w Q I r1 r2 k => rI0_ok r1 r2 (.int _) k
theorem de_mul (ha : DE X E a (.int i)) (hb : DE X E b (.int j)) (hc : CMul i j) : DE X E (.BinOp a .Mult b pos) (.int (i * j)) := de_bin op_mul ha hb fun M L H σ v w Q I r1 r2 k => rI_ok hc r1 r2 (.int _) k
theorem de_mulW (ha : DE X E a (.int i)) (hb : DE X E b (.int j)) (hc : CMulW i j) : DE X E (.BinOp a .Mult b pos) (.int (i * j)) := de_bin op_mulW ha hb fun M L H σ v w Q I r1 r2 k => rI_ok hc r1 r2 (.int _) k
theorem de_mod (ha : DE X E a (.int i)) (hb : DE X E b (.int j)) (hc : 0 < j) : DE X E (.BinOp a .Mod b pos) (.int (i % j)) := de_bin op_mod ha hb fun M L H σ v w Q I r1 r2 k => rI_ok (C := fun _ j => 0 < j) hc r1 r2 (.int _) k
theorem de_modN (ha : DE X E a (.int i)) (hb : DE X E b (.int j)) (hc : j ≠ 0) : DE X E (.BinOp a .Mod b pos) (.int (i.fmod j)) := de_bin op_modN ha hb fun M L H σ v w Q I r1 r2 k => rI_ok (C := fun _ j => j ≠ 0) hc r1 r2 (.int _) k
theorem de_div (ha : DE X E a (.int i)) (hb : DE X E b (.int j)) (hc : CDiv i j) : DE X E (.BinOp a .FloorDiv b pos) (.int (i / j)) := de_bin op_fdiv ha hb fun M L H σ v w Q I r1 r2 k => rI_ok hc r1 r2 (.int _) k
theorem de_divW (ha : DE X E a (.int i)) (hb : DE X E b (.int j)) (hc : CDivW i j) : DE X E (.BinOp a .FloorDiv b pos) (.int (i / j)) := de_bin op_fdivW ha hb fun M L H σ v w Q I r1 r2 k => rI_ok hc r1 r2 (.int _) k
theorem de_pow (ha : DE X E a (.int i)) (hb : DE X E b (.int j)) (hc : CPow i j) : DE X E (.BinOp a .Pow b pos) (.int (i ^ j.toNat)) := de_bin op_pow ha hb fun M L H σ v w Q I r1 r2 k => rI_ok hc r1 r2 (.int _) k
/-- // by any divisor but 0, of a size -/
def CDivZ (_ j : Int) : Prop := j ≠ 0 ∧ j.natAbs.log2 < 9000
theorem op_fdivZ {X : Cx} : OpR X (binaryOp .FloorDiv) (rI CDivZ fun i j => .int (i.fdiv j)) := opI fun i j _ _ _ _ _ hc q => PyProof.Rows.floordiv_int hc.1 q (.inl (PyProof.noPylong_of_log2 hc.2))
theorem de_divZ (ha : DE X E a (.int i)) (hb : DE X E b (.int j)) (hc : CDivZ i j) : DE X E (.BinOp a .FloorDiv b pos) (.int (i.fdiv j)) := de_bin op_fdivZ ha hb fun M L H σ v w Q I r1 r2 k => rI_ok hc r1 r2 (.int _) k
theorem de_neg (ha : DE X E a (.int i)) : DE X E (.UnaryOp .USub a pos) (.int (-i)) := by
  obtain ⟨ta, a1, a2⟩ := ha
  refine ⟨_, pe_un un_neg a1, fun M L H σ Q I k => a2 M L H σ _ I fun v H' s r => ?_⟩
  cases r
  exact ⟨i, rfl, k _ H' s (.int _)⟩

/-! comparisons -/
section
variable {op : CmpOp} {g : Int → Int → Bool}
theorem de_ci (ho : OpR X (compareOp op) (rI0 fun i j => .bl (g i j))) (hm : ∀ b, behindInMarks op b = false) (ha : DE X E a (.int i)) (hb : DE X E b (.int j)) : DE X E (.Compare a [op] [b] pos) (.bool (g i j)) := de_cmp ho ha hb (fun M L H σ v w Q I r1 r2 k => rI0_ok r1 r2 (.bl _) k) (hm b)
theorem dt_ci (ho : OpR X (compareOp op) (rI0 fun i j => .bl (g i j))) (hm : ∀ b, behindInMarks op b = false) (ha : DE X E a (.int i)) (hb : DE X E b (.int j)) : DT X E (.Compare a [op] [b] pos) (g i j) := dt_cmp ho ha hb (fun M L H σ v w Q I r1 r2 k => rI0_ok r1 r2 (.bl _) k) (hm b)
end
theorem de_lt (ha : DE X E a (.int i)) (hb : DE X E b (.int j)) : DE X E (.Compare a [.Lt] [b] pos) (.bool (decide (i < j))) := de_ci op_lt (fun _ => nomark _) ha hb
theorem de_le (ha : DE X E a (.int i)) (hb : DE X E b (.int j)) : DE X E (.Compare a [.LtE] [b] pos) (.bool (decide (i ≤ j))) := de_ci op_le (fun _ => nomark _) ha hb
theorem de_gt (ha : DE X E a (.int i)) (hb : DE X E b (.int j)) : DE X E (.Compare a [.Gt] [b] pos) (.bool (decide (j < i))) := de_ci op_gt (fun _ => nomark _) ha hb
theorem de_ge (ha : DE X E a (.int i)) (hb : DE X E b (.int j)) : DE X E (.Compare a [.GtE] [b] pos) (.bool (decide (j ≤ i))) := de_ci op_ge (fun _ => nomark _) ha hb
theorem dt_lt (ha : DE X E a (.int i)) (hb : DE X E b (.int j)) : DT X E (.Compare a [.Lt] [b] pos) (decide (i < j)) := dt_ci op_lt (fun _ => nomark _) ha hb
theorem dt_le (ha : DE X E a (.int i)) (hb : DE X E b (.int j)) : DT X E (.Compare a [.LtE] [b] pos) (decide (i ≤ j)) := dt_ci op_le (fun _ => nomark _) ha hb
theorem dt_gt (ha : DE X E a (.int i)) (hb : DE X E b (.int j)) : DT X E (.Compare a [.Gt] [b] pos) (decide (j < i)) := dt_ci op_gt (fun _ => nomark _) ha hb
theorem dt_ge (ha : DE X E a (.int i)) (hb : DE X E b (.int j)) : DT X E (.Compare a [.GtE] [b] pos) (decide (j ≤ i)) := dt_ci op_ge (fun _ => nomark _) ha hb
theorem v_eq_int : decide (V.int i = V.int j) = decide (i = j) := by
  by_cases h : i = j
  · simp [h]
  · simp [h]
theorem rEqI {M L : List Addr} {H : Hp} {v w : V} {Q : VK} (r1 : R X.K (fz (L ++ M) H) v (.int i)) (r2 : R X.K (fz (L ++ M) H) w (.int j)) (k : ∀ u H', Same H H' → R X.K (fz (L ++ M) H') u (.bool (decide (i = j))) → Q u H') : rEq v w H Q := by
  cases r1; cases r2
  exact ⟨rfl, k _ H (Same.refl H) (by rw [v_eq_int]; exact .bl _)⟩
theorem rNeI {M L : List Addr} {H : Hp} {v w : V} {Q : VK} (r1 : R X.K (fz (L ++ M) H) v (.int i)) (r2 : R X.K (fz (L ++ M) H) w (.int j)) (k : ∀ u H', Same H H' → R X.K (fz (L ++ M) H') u (.bool (!decide (i = j))) → Q u H') : rNe v w H Q := by
  cases r1; cases r2
  exact ⟨rfl, k _ H (Same.refl H) (by rw [v_eq_int]; exact .bl _)⟩
theorem de_eqI (ha : DE X E a (.int i)) (hb : DE X E b (.int j)) : DE X E (.Compare a [.Eq] [b] pos) (.bool (decide (i = j))) := de_cmp op_eq ha hb (fun M L H σ v w Q I r1 r2 k => rEqI r1 r2 k) (nomark _)
theorem dt_eqI (ha : DE X E a (.int i)) (hb : DE X E b (.int j)) : DT X E (.Compare a [.Eq] [b] pos) (decide (i = j)) := dt_cmp op_eq ha hb (fun M L H σ v w Q I r1 r2 k => rEqI r1 r2 k) (nomark _)
theorem de_neI (ha : DE X E a (.int i)) (hb : DE X E b (.int j)) : DE X E (.Compare a [.NotEq] [b] pos) (.bool (!decide (i = j))) := de_cmp op_ne ha hb (fun M L H σ v w Q I r1 r2 k => rNeI r1 r2 k) (nomark _)
theorem dt_neI (ha : DE X E a (.int i)) (hb : DE X E b (.int j)) : DT X E (.Compare a [.NotEq] [b] pos) (!decide (i = j)) := dt_cmp op_ne ha hb (fun M L H σ v w Q I r1 r2 k => rNeI r1 r2 k) (nomark _)
/-- == of any data -/
theorem rEqD_ok {M L : List Addr} {H : Hp} {v w : V} {Q : VK} (n1 : noDict x = true) (n2 : noDict y = true) (s1 : SeqAt.shaped x = true) (s2 : SeqAt.shaped y = true) (r1 : R X.K (fz (L ++ M) H) v x) (r2 : R X.K (fz (L ++ M) H) w y) (k : ∀ u H', Same H H' → R X.K (fz (L ++ M) H') u (.bool (PyData.eqv x y)) → Q u H') : rEqD X.K v w H Q :=
  ⟨x, y, R.dp _ _ n1 (R.same fz_sub _ _ r1), R.dp _ _ n2 (R.same fz_sub _ _ r2), s1, s2, k _ H (Same.refl H) (.bl _)⟩
theorem rNeD_ok {M L : List Addr} {H : Hp} {v w : V} {Q : VK} (n1 : noDict x = true) (n2 : noDict y = true) (s1 : SeqAt.shaped x = true) (s2 : SeqAt.shaped y = true) (r1 : R X.K (fz (L ++ M) H) v x) (r2 : R X.K (fz (L ++ M) H) w y) (k : ∀ u H', Same H H' → R X.K (fz (L ++ M) H') u (.bool (!PyData.eqv x y)) → Q u H') : rNeD X.K v w H Q :=
  ⟨x, y, R.dp _ _ n1 (R.same fz_sub _ _ r1), R.dp _ _ n2 (R.same fz_sub _ _ r2), s1, s2, k _ H (Same.refl H) (.bl _)⟩
theorem de_eqD (hu : X.A.units + 64 < cLine) (ha : DE X E a x) (hb : DE X E b y) (n1 : noDict x = true) (n2 : noDict y = true) (s1 : SeqAt.shaped x = true) (s2 : SeqAt.shaped y = true) : DE X E (.Compare a [.Eq] [b] pos) (.bool (PyData.eqv x y)) :=
  de_cmp (op_eqD hu) ha hb (fun M L H σ v w Q I r1 r2 k => rEqD_ok n1 n2 s1 s2 r1 r2 k) (nomark _)
theorem dt_eqD (hu : X.A.units + 64 < cLine) (ha : DE X E a x) (hb : DE X E b y) (n1 : noDict x = true) (n2 : noDict y = true) (s1 : SeqAt.shaped x = true) (s2 : SeqAt.shaped y = true) : DT X E (.Compare a [.Eq] [b] pos) (PyData.eqv x y) :=
  dt_cmp (op_eqD hu) ha hb (fun M L H σ v w Q I r1 r2 k => rEqD_ok n1 n2 s1 s2 r1 r2 k) (nomark _)
theorem dt_neD (hu : X.A.units + 64 < cLine) (ha : DE X E a x) (hb : DE X E b y) (n1 : noDict x = true) (n2 : noDict y = true) (s1 : SeqAt.shaped x = true) (s2 : SeqAt.shaped y = true) : DT X E (.Compare a [.NotEq] [b] pos) (!PyData.eqv x y) :=
  dt_cmp (op_neD hu) ha hb (fun M L H σ v w Q I r1 r2 k => rNeD_ok n1 n2 s1 s2 r1 r2 k) (nomark _)
/-- is None -/
def isNon : PyData → Bool
  | .none => true
  | _ => false
theorem isNon_v {K : PySem.W.Frag} {H : Hp} {v : V} (r : R K H v x) : decide (v = .non) = isNon x := by
  cases r <;> simp [isNon]
theorem de_isN (ha : DE X E a x) {j p2} : DE X E (.Compare a [.Is] [.Constant .none j p2] pos) (.bool (isNon x)) :=
  de_cmp op_isN ha (de_non (E := E)) (fun M L H σ v w Q I r1 r2 k => by cases r2; exact ⟨rfl, k _ H (Same.refl H) (by rw [isNon_v r1]; exact .bl _)⟩) (nomark _)
theorem dt_isN (ha : DE X E a x) {j p2} : DT X E (.Compare a [.Is] [.Constant .none j p2] pos) (isNon x) :=
  dt_cmp op_isN ha (de_non (E := E)) (fun M L H σ v w Q I r1 r2 k => by cases r2; exact ⟨rfl, k _ H (Same.refl H) (by rw [isNon_v r1]; exact .bl _)⟩) (nomark _)
theorem dt_notN (ha : DE X E a x) {j p2} : DT X E (.Compare a [.IsNot] [.Constant .none j p2] pos) (!isNon x) :=
  dt_cmp op_notN ha (de_non (E := E)) (fun M L H σ v w Q I r1 r2 k => by cases r2; exact ⟨rfl, k _ H (Same.refl H) (by rw [isNon_v r1]; exact .bl _)⟩) (nomark _)

/-! and, or, not -/
theorem PE.never {X : Cx} {e : Expr} : PE X e (fun _ _ _ => False) := ⟨fun _ _ _ _ _ _ h => h.elim⟩
theorem PT.never {X : Cx} {e : Expr} : PT X e (fun _ _ _ => False) := ⟨fun _ _ _ _ _ _ h => h.elim⟩
theorem PW.never {X : Cx} {e : Expr} : PW X e (fun _ _ _ => False) := ⟨fun _ _ _ _ _ _ _ h => h.elim⟩
theorem dt_val (h : DE X E e (.bool p)) (he : ∀ whole, isTrue e X.env whole = (do let v ← whole; standAt e.pos; holding [v] (truthy v)) := by intro _; rfl) : DT X E e p := by
  obtain ⟨te, h1, h2⟩ := h
  refine ⟨_, pt_val h1 he, fun M L H σ Q I k => h2 M L H σ _ I fun v H' s r => ?_⟩
  cases r
  exact ⟨p, rfl, k H' s⟩
theorem dt_not (h : DT X E a p) : DT X E (.UnaryOp .Not a pos) (!p) := by
  obtain ⟨te, h1, h2⟩ := h
  exact ⟨_, pt_not h1, fun M L H σ Q I k => h2 M L H σ _ I fun H' s => k H' s⟩
theorem DW.toT (h : DW X E e p) : DT X E e p := by
  obtain ⟨te, h1, h2⟩ := h
  exact ⟨te, h1.pt, h2⟩
theorem dw_and1 (h : DT X E a p) : DW X E (.BoolOp .And [a] pos) p := by
  obtain ⟨te, h1, h2⟩ := h
  exact ⟨te, pw_and1 h1, h2⟩
theorem dw_or1 (h : DT X E a p) : DW X E (.BoolOp .Or [a] pos) p := by
  obtain ⟨te, h1, h2⟩ := h
  exact ⟨te, pw_or1 h1, h2⟩
theorem dw_and {rest : List Expr} (ha : DT X E a p) (hb : p = true → DW X E (.BoolOp .And (b :: rest) pos) q) : DW X E (.BoolOp .And (a :: b :: rest) pos) (p && q) := by
  obtain ⟨ta, a1, a2⟩ := ha
  cases p with
  | true =>
    obtain ⟨tb, b1, b2⟩ := hb rfl
    refine ⟨_, pw_and a1 b1, fun M L H σ Q I k => a2 M L H σ _ I fun H1 s1 => ?_⟩
    exact iteT (b2 M L H1 σ _ (I.same s1) fun H2 s2 => k H2 (s1.trans s2))
  | false =>
    refine ⟨_, pw_and a1 PW.never, fun M L H σ Q I k => a2 M L H σ _ I fun H1 s1 => ?_⟩
    exact iteF (k H1 s1)
theorem dw_or {rest : List Expr} (ha : DT X E a p) (hb : p = false → DW X E (.BoolOp .Or (b :: rest) pos) q) : DW X E (.BoolOp .Or (a :: b :: rest) pos) (p || q) := by
  obtain ⟨ta, a1, a2⟩ := ha
  cases p with
  | true =>
    refine ⟨_, pw_or a1 PW.never, fun M L H σ Q I k => a2 M L H σ _ I fun H1 s1 => ?_⟩
    exact iteT (k H1 s1)
  | false =>
    obtain ⟨tb, b1, b2⟩ := hb rfl
    refine ⟨_, pw_or a1 b1, fun M L H σ Q I k => a2 M L H σ _ I fun H1 s1 => ?_⟩
    exact iteF (b2 M L H1 σ _ (I.same s1) fun H2 s2 => k H2 (s1.trans s2))
theorem de_one {op} (h : DE X E a x) : DE X E (.BoolOp op [a] pos) x := by
  obtain ⟨te, h1, h2⟩ := h
  exact ⟨te, pe_one h1, h2⟩
/-- a and b, a or b as a value, a a truth -/
theorem de_and {rest : List Expr} (ha : DE X E a (.bool p)) (hb : p = true → DE X E (.BoolOp .And (b :: rest) pos) (.bool q)) : DE X E (.BoolOp .And (a :: b :: rest) pos) (.bool (p && q)) := by
  obtain ⟨ta, a1, a2⟩ := ha
  cases p with
  | true =>
    obtain ⟨tb, b1, b2⟩ := hb rfl
    refine ⟨_, pe_and a1 b1, fun M L H σ Q I k => a2 M L H σ _ I fun v H1 s1 r1 => ?_⟩
    cases r1
    exact ⟨true, rfl, iteT (b2 M L H1 σ _ (I.same s1) fun v H2 s2 r2 => k v H2 (s1.trans s2) r2)⟩
  | false =>
    refine ⟨_, pe_and a1 PE.never, fun M L H σ Q I k => a2 M L H σ _ I fun v H1 s1 r1 => ?_⟩
    cases r1
    exact ⟨false, rfl, iteF (k _ H1 s1 (.bl _))⟩
theorem de_or {rest : List Expr} (ha : DE X E a (.bool p)) (hb : p = false → DE X E (.BoolOp .Or (b :: rest) pos) (.bool q)) : DE X E (.BoolOp .Or (a :: b :: rest) pos) (.bool (p || q)) := by
  obtain ⟨ta, a1, a2⟩ := ha
  cases p with
  | true =>
    refine ⟨_, pe_or a1 PE.never, fun M L H σ Q I k => a2 M L H σ _ I fun v H1 s1 r1 => ?_⟩
    cases r1
    exact ⟨true, rfl, iteT (k _ H1 s1 (.bl _))⟩
  | false =>
    obtain ⟨tb, b1, b2⟩ := hb rfl
    refine ⟨_, pe_or a1 b1, fun M L H σ Q I k => a2 M L H σ _ I fun v H1 s1 r1 => ?_⟩
    cases r1
    exact ⟨false, rfl, iteF (b2 M L H1 σ _ (I.same s1) fun v H2 s2 r2 => k v H2 (s1.trans s2) r2)⟩
theorem de_not (h : DE X E a (.bool p)) : DE X E (.UnaryOp .Not a pos) (.bool (!p)) := by
  obtain ⟨te, h1, h2⟩ := h
  refine ⟨_, pe_not h1, fun M L H σ Q I k => h2 M L H σ _ I fun v H' s r => ?_⟩
  cases r
  exact ⟨p, rfl, k _ H' s (.bl _)⟩
theorem de_if (hc : DT X E c p) (ha : p = true → DE X E a x) (hb : p = false → DE X E b x) : DE X E (.IfExp c a b pos) x := by
  obtain ⟨tc, c1, c2⟩ := hc
  cases p with
  | true =>
    obtain ⟨ta, a1, a2⟩ := ha rfl
    exact ⟨_, pe_ifExp c1 a1 PE.never, fun M L H σ Q I k => c2 M L H σ _ I fun H1 s1 => iteT (a2 M L H1 σ _ (I.same s1) fun v H2 s2 r => k v H2 (s1.trans s2) r)⟩
  | false =>
    obtain ⟨tb, b1, b2⟩ := hb rfl
    exact ⟨_, pe_ifExp c1 PE.never b1, fun M L H σ Q I k => c2 M L H σ _ I fun H1 s1 => iteF (b2 M L H1 σ _ (I.same s1) fun v H2 s2 r => k v H2 (s1.trans s2) r)⟩

/-! argument lists, tuples, lists -/
theorem da_nil : DA X E [] [] := ⟨_, pa_nil, fun M L H σ Q I k => k [] H (Same.refl H) .nil⟩
theorem da_cons (ha : DE X E e x) (hr : DA X E es xs) (hs : starEach (e :: es) X.env = (false, eval e X.env) :: starEach es X.env := by rfl) : DA X E (e :: es) (x :: xs) := by
  obtain ⟨ta, a1, a2⟩ := ha
  obtain ⟨tr, r1, r2⟩ := hr
  exact ⟨_, pa_cons a1 r1 hs, fun M L H σ Q I k => a2 M L H σ _ I fun v H1 s1 q1 => r2 M L H1 σ _ (I.same s1) fun vs H2 s2 q2 => k (v :: vs) H2 (s1.trans s2) (.cons (R.same (fz_same s2) _ _ q1) q2)⟩
theorem de_tup {x1} (h : DA X E es xs) (hl : Nat.ble xs.length sizeLine = true := by rfl) : DE X E (.Tuple es x1 pos) (.tuple xs) := by
  obtain ⟨ta, a1, a2⟩ := h
  refine ⟨_, pe_tup a1, fun M L H σ Q I k => a2 M L H σ _ I fun vs H1 s1 q1 => ⟨by rw [q1.length]; exact Nat.le_of_ble_eq_true hl, fun p hp => ?_⟩⟩
  have sp : Same H1 (upd H1 p (.tup vs)) := same_new hp
  have np : p ∉ L ++ M := fun z => (I.same s1).dom p z hp
  exact k _ _ (s1.trans sp) (.tup (.inl (.inl (by rw [fz_of np]; exact upd_same))) (RA.same (fz_same sp) _ _ q1))
theorem dn_lst (h : DA X E es xs) (hl : Nat.ble xs.length sizeLine = true := by rfl) : DN X E (.List es pos) (.l (xs.map .d)) := by
  obtain ⟨ta, a1, a2⟩ := h
  refine ⟨_, pe_lst a1, fun M L H σ Q I k => a2 M L H σ _ I fun vs H1 s1 q1 => ⟨by rw [q1.length]; exact Nat.le_of_ble_eq_true hl, fun p hp => ?_⟩⟩
  have sp : Same H1 (upd H1 p (.lst vs)) := same_new hp
  have np : p ∉ L ++ M := fun z => (I.same s1).dom p z hp
  have hp0 : H p = none := s1.free hp
  refine k _ _ [p] (s1.trans sp) (List.nodup_cons.mpr ⟨by simp, List.nodup_nil⟩) (fun a ha => by cases List.mem_singleton.mp ha; exact hp0) ?_
  refine .l List.mem_cons_self upd_same (Owns.ofRA (RA.same (fz_mono fun a o n e => ⟨fun z => ?_, ?_⟩) _ _ q1))
  · rcases List.mem_cons.mp z with z | z
    · rw [z, hp] at e; cases e
    · exact n z
  · exact sp a o e
end
end D

end

section
set_option Elab.async false
set_option linter.all false
set_option maxRecDepth 100000
set_option maxHeartbeats 2000000
namespace D
open PySem L2 PySem.Spec PyProof.Rows

/-! ### items, slices, len -/
/-- the items of a list (true), of a tuple (false) -/
def OT.kids : OT → Option (Bool × List OT)
  | .d (.list xs) => some (true, xs.map .d)
  | .d (.tuple xs) => some (false, xs.map .d)
  | .l ts => some (true, ts)
  | .t ts => some (false, ts)
  | _ => none
def SqB (K : PySem.W.Frag) (H : Hp) (a : Addr) (vs : List V) : Bool → Prop
  | true => SqL K H a vs
  | false => SqT K H a vs
theorem own_kids {K : PySem.W.Frag} {W : List Addr} {H : Hp} {v : V} {t : OT} {F : List Addr} {s : Bool} {ts : List OT} (h : Own K W H v t F) (hk : t.kids = some (s, ts)) (nF : F.Nodup) :
    ∃ a vs G, v = .ref a ∧ SqB K H a vs s ∧ Owns K W H vs ts G ∧ (∀ x ∈ G, x ∈ F) ∧ G.Nodup := by
  cases h with
  | d r =>
    cases r with
    | lst hs ha =>
      cases hk
      exact ⟨_, _, [], rfl, fz_sub.seq hs, Owns.ofRA ha, (fun x hx => absurd hx List.not_mem_nil), List.nodup_nil⟩
    | tup hs ha =>
      cases hk
      exact ⟨_, _, [], rfl, same_t fz_sub hs, Owns.ofRA ha, (fun x hx => absurd hx List.not_mem_nil), List.nodup_nil⟩
    | _ => cases hk
  | l hp hl ho =>
    cases hk
    exact ⟨_, _, _, rfl, .inl (.inl hl), ho, fun x hx => List.mem_cons_of_mem _ hx, (List.nodup_cons.mp nF).2⟩
  | t hs ho =>
    cases hk
    exact ⟨_, _, _, rfl, .inl (.inl (fz_sub _ _ hs)), ho, fun x hx => hx, nF⟩
theorem Owns.at {K : PySem.W.Frag} {W : List Addr} {H : Hp} {vs : List V} {ts : List OT} {F : List Addr} {i : Int} {t : OT} (h : Owns K W H vs ts F) (e : atI ts i = some t) : ∃ v G, atI vs i = some v ∧ Own K W H v t G ∧ (∀ a ∈ G, a ∈ F) ∧ (F.Nodup → G.Nodup) := by
  unfold atI at e
  have hl := h.length
  cases q : ixN ts.length i with
  | none => rw [q] at e; cases e
  | some j =>
    rw [q] at e
    obtain ⟨v, G, h1, h2⟩ := h.get (i := j) (t := t) e
    refine ⟨v, G, ?_, h2⟩
    unfold atI
    rw [hl, q]
    exact h1
theorem at_nat {α : Type} {xs : List α} {j : Nat} {v : α} (h : xs[j]? = some v) : atI xs (j : Int) = some v := atI_nat h
theorem at_lt {α : Type} {xs : List α} {i : Int} {v : α} (h0 : 0 ≤ i) (h : xs[i.toNat]? = some v) : atI xs i = some v := by
  have := atI_nat h
  rwa [Int.toNat_of_nonneg h0] at this
theorem at_map {α β : Type} {f : α → β} {xs : List α} {i : Int} {v : α} (h : atI xs i = some v) : atI (xs.map f) i = some (f v) := by
  unfold atI at h ⊢
  rw [List.length_map]
  cases q : ixN xs.length i with
  | none => rw [q] at h; cases h
  | some j =>
    rw [q] at h
    show (xs.map f)[j]? = some (f v)
    rw [List.getElem?_map, show xs[j]? = some v from h]
    rfl
section
variable {X : Cx} {E : List Sl} {e a b c : Expr} {es : List Expr} {x y z : PyData} {xs : List PyData} {pos : Pos} {i j : Int} {p q : Bool} {t u : OT} {ts : List OT} {s : Bool}
theorem db_ix (ha : DB X E a t) (hb : DE X E b (.int i)) (hk : t.kids = some (s, ts) := by rfl) (hx : atI ts i = some u := by rfl) (hs : PlainIx b := by exact fun _ _ => rfl) : DB X E (.Subscript a b pos) u := by
  obtain ⟨ta, a1, a2⟩ := ha
  obtain ⟨tb, b1, b2⟩ := hb
  cases s with
  | true =>
    refine ⟨_, pe_ix ix_list a1 b1 hs, fun M L H σ Q I k => a2 M L H σ _ I fun v H1 F s1 nF hF o1 => b2 M L H1 σ _ (I.same s1) fun w H2 s2 r2 => ?_⟩
    have o2 : Own X.K (L ++ M) H2 v t F := Own.mono (fz_same s2) _ _ _ (fun a ha => by
      obtain ⟨h1, vs, h2⟩ := Own.sub _ _ _ o1 a ha
      exact ⟨h1, eq_same s2 h2⟩) o1
    obtain ⟨p, vs, G, rfl, hq, ho, hG, nG⟩ := own_kids o2 hk nF
    obtain ⟨w', G', h1, h2, h3, h4⟩ := ho.at hx
    cases r2
    exact ⟨p, vs, i, w', rfl, rfl, hq, h1, k _ H2 G' (s1.trans s2) (h4 nG) (fun a ha => hF a (hG a (h3 a ha))) h2⟩
  | false =>
    refine ⟨_, pe_ix ix_tup a1 b1 hs, fun M L H σ Q I k => a2 M L H σ _ I fun v H1 F s1 nF hF o1 => b2 M L H1 σ _ (I.same s1) fun w H2 s2 r2 => ?_⟩
    have o2 : Own X.K (L ++ M) H2 v t F := Own.mono (fz_same s2) _ _ _ (fun a ha => by
      obtain ⟨h1, vs, h2⟩ := Own.sub _ _ _ o1 a ha
      exact ⟨h1, eq_same s2 h2⟩) o1
    obtain ⟨p, vs, G, rfl, hq, ho, hG, nG⟩ := own_kids o2 hk nF
    obtain ⟨w', G', h1, h2, h3, h4⟩ := ho.at hx
    cases r2
    exact ⟨p, vs, i, w', rfl, rfl, hq, h1, k _ H2 G' (s1.trans s2) (h4 nG) (fun a ha => hF a (hG a (h3 a ha))) h2⟩
/-- an item of a list, of a tuple -/
theorem de_ix (ha : DE X E a (.list xs)) (hb : DE X E b (.int i)) (hx : atI xs i = some y) (hs : PlainIx b := by exact fun _ _ => rfl) : DE X E (.Subscript a b pos) y := (db_ix (u := .d y) ha.toB hb rfl (at_map hx) hs).toE
theorem de_it (ha : DE X E a (.tuple xs)) (hb : DE X E b (.int i)) (hx : atI xs i = some y := by rfl) (hs : PlainIx b := by exact fun _ _ => rfl) : DE X E (.Subscript a b pos) y := (db_ix (u := .d y) ha.toB hb rfl (at_map hx) hs).toE
/-- len -/
theorem de_len {nm : Pos} (ha : DB X E a t) (hg : Gl X "len") (hm : X.mg "len" = none) (hk : t.kids = some (s, ts) := by rfl) (hs : starEach [a] X.env = (false, eval a X.env) :: starEach [] X.env := by rfl) : DE X E (.Call (.Name "len" nm) [a] [] pos) (.int (ts.length : Int)) := by
  obtain ⟨ta, a1, a2⟩ := ha
  refine ⟨_, pe_callB call_len_seq hg hm PySem.boot_len (pa_cons a1 pa_nil hs) (he := hs), fun M L H σ Q I k => a2 M L H σ _ I fun v H1 F s1 nF hF o1 => ?_⟩
  obtain ⟨p, vs, G, rfl, hq, ho, hG, nG⟩ := own_kids o1 hk nF
  refine ⟨p, vs, rfl, ?_, k _ H1 s1 (by rw [ho.length]; exact .int _)⟩
  cases s with
  | true => exact .inl hq
  | false => exact .inr hq
theorem len_d : ((xs.map OT.d).length : Int) = (xs.length : Int) := by rw [List.length_map]
theorem de_lenD {nm : Pos} (ha : DE X E a (.list xs)) (hg : Gl X "len") (hm : X.mg "len" = none) (hs : starEach [a] X.env = (false, eval a X.env) :: starEach [] X.env := by rfl) : DE X E (.Call (.Name "len" nm) [a] [] pos) (.int (xs.length : Int)) := (de_len ha.toB hg hm rfl hs).cast (by rw [len_d])
theorem de_lenT {nm : Pos} (ha : DE X E a (.tuple xs)) (hg : Gl X "len") (hm : X.mg "len" = none) (hs : starEach [a] X.env = (false, eval a X.env) :: starEach [] X.env := by rfl) : DE X E (.Call (.Name "len" nm) [a] [] pos) (.int (xs.length : Int)) := (de_len ha.toB hg hm rfl hs).cast (by rw [len_d])

/-! slices -/
def cutG {α : Type} (xs : List α) (lo hi : Option Int) : List α := (xs.drop (HT.sIx xs.length 0 lo)).take (HT.sIx xs.length xs.length hi - HT.sIx xs.length 0 lo)
theorem RA.drop {K : PySem.W.Frag} {H : Hp} : ∀ {ds : List PyData} {vs : List V} (n : Nat), RA K H vs ds → RA K H (vs.drop n) (ds.drop n)
  | _, _, 0, h => h
  | [], _, n + 1, h => by cases h; exact .nil
  | d :: ds, _, n + 1, h => by
    cases h with
    | cons h1 h2 => exact RA.drop n h2
theorem RA.take {K : PySem.W.Frag} {H : Hp} : ∀ {ds : List PyData} {vs : List V} (n : Nat), RA K H vs ds → RA K H (vs.take n) (ds.take n)
  | _, _, 0, h => .nil
  | [], _, n + 1, h => by cases h; exact .nil
  | d :: ds, _, n + 1, h => by
    cases h with
    | cons h1 h2 => exact .cons h1 (RA.take n h2)
theorem RA.cut {K : PySem.W.Frag} {H : Hp} {ds : List PyData} {vs : List V} {lo hi : Option Int} (h : RA K H vs ds) : RA K H (cutV vs lo hi) (cutG ds lo hi) := by
  unfold cutV cutG
  rw [h.length]
  exact (h.drop _).take _
def EvO (K : PySem.W.Frag) (to : TO) (E : List Sl) (o : Option Int) : Prop :=
  ∀ (M L : List Addr) (H : Hp) (σ : L2.St) (Q : Option Int → Hp → Prop), EnvR K M L H σ E → (∀ H', Same H H' → Q o H') → to σ H Q
structure DO (X : Cx) (E : List Sl) (e : Option Expr) (o : Option Int) : Prop where
  ex : ∃ to, PO X e to ∧ EvO X.K to E o
theorem do_non : DO X E none none := ⟨_, po_none, fun M L H σ Q I k => k H (Same.refl H)⟩
theorem do_som (h : DE X E e (.int i)) : DO X E (some e) (some i) := by
  obtain ⟨te, h1, h2⟩ := h
  exact ⟨_, po_some h1, fun M L H σ Q I k => h2 M L H σ _ I fun v H' s r => by
    cases r
    exact ⟨i, rfl, k H' s⟩⟩
/-- a new list is laid, its items data that stood -/
theorem own_new {K : PySem.W.Frag} {M L : List Addr} {H H1 : Hp} {σ : L2.St} {Q : VK} {ws : List V} {p : Addr} (I : EnvR K M L H σ E) (s1 : Same H H1) (q1 : RA K (fz (L ++ M) H1) ws xs) (hp : H1 p = none)
    (k : ∀ v H' F, Same H H' → F.Nodup → (∀ a ∈ F, H a = none) → Own K (F ++ (L ++ M)) H' v (.l (xs.map .d)) F → Q v H') : Q (.ref p) (upd H1 p (.lst ws)) := by
  have sp : Same H1 (upd H1 p (.lst ws)) := same_new hp
  have hp0 : H p = none := s1.free hp
  refine k _ _ [p] (s1.trans sp) (List.nodup_cons.mpr ⟨by simp, List.nodup_nil⟩) (fun a ha => by cases List.mem_singleton.mp ha; exact hp0) ?_
  refine .l List.mem_cons_self upd_same (Owns.ofRA (RA.same (fz_mono fun a o n e => ⟨fun z => ?_, ?_⟩) _ _ q1))
  · rcases List.mem_cons.mp z with z | z
    · rw [z, hp] at e; cases e
    · exact n z
  · exact sp a o e
theorem dn_cut {lo hi : Option Expr} {ol oh : Option Int} {p2 : Pos} (ha : DE X E a (.list xs)) (hl : DO X E lo ol) (hh : DO X E hi oh) : DN X E (.Subscript a (.Slice lo hi none p2) pos) (.l ((cutG xs ol oh).map .d)) := by
  obtain ⟨ta, a1, a2⟩ := ha
  obtain ⟨tl, l1, l2⟩ := hl
  obtain ⟨th, h1, h2⟩ := hh
  refine ⟨_, pe_slice sl_list a1 l1 h1, fun M L H σ Q I k => a2 M L H σ _ I fun v H1 s1 r1 => l2 M L H1 σ _ (I.same s1) fun H2 s2 => h2 M L H2 σ _ (I.same (s1.trans s2)) fun H3 s3 => ?_⟩
  cases R.same (fz_same (s2.trans s3)) _ _ r1 with
  | lst hs hr => exact ⟨_, _, rfl, fz_sub.seq hs, fun p hp => own_new I ((s1.trans s2).trans s3) hr.cut hp k⟩
/-- list(xs) -/
theorem dn_list {nm : Pos} (ha : DE X E a (.list xs)) (hg : Gl X "list") (hm : X.mg "list" = none) (hs : starEach [a] X.env = (false, eval a X.env) :: starEach [] X.env := by rfl) : DN X E (.Call (.Name "list" nm) [a] [] pos) (.l (xs.map .d)) := by
  obtain ⟨ta, a1, a2⟩ := ha
  refine ⟨_, pe_callTy call_list_of hg hm (by decide +kernel) (pa_cons a1 pa_nil hs) (he := hs), fun M L H σ Q I k => a2 M L H σ _ I fun v H1 s1 r1 => ?_⟩
  cases r1 with
  | lst hs hr => exact ⟨_, _, rfl, .inl (fz_sub.seq hs), fun p hp => own_new I s1 hr hp k⟩
/-- xs + ys, any lists -/
def rCatS (K : PySem.W.Frag) : R2 := fun x y H Q => ∃ l b xs zs, x = .ref l ∧ y = .ref b ∧ SqL K H l xs ∧ SqL K H b zs ∧ xs.length + zs.length ≤ sizeLine ∧ ∀ p, H p = none → Q (.ref p) (upd H p (.lst (xs ++ zs)))
theorem op_catS {X : Cx} : OpR X (binaryOp .Add) (rCatS X.K) := by
  intro pins s σ H x y v u Q I rx ry h
  obtain ⟨l, b, xs, zs, rfl, rfl, hH, hB, hz, q⟩ := h
  cases rx
  cases ry
  obtain ⟨its, r, pl, h1⟩ := I.list hH
  obtain ⟨its2, r2, pl2, h2⟩ := I.list hB
  obtain ⟨⟨cls, dd, data, sl⟩, n, ho, hc, hd, hdat⟩ := pl
  obtain ⟨⟨cls2, dd2, data2, sl2⟩, n2, ho2, hc2, hd2, hdat2⟩ := pl2
  simp only at hc hd hdat hc2 hd2 hdat2
  subst hc hd hdat hc2 hd2 hdat2
  have e : its.toArray ++ its2.toArray = (its ++ its2).toArray := by simp
  have l1 := r.length
  have l2 := r2.length
  refine concat_meets ⟨_, ho, rfl⟩ ⟨_, ho2, rfl⟩ noFill_list_add seq_list_add PySem.F.slot_list_add PySem.F.entry_list_add (PySem.F.args_list_add_2 _ _) (list_addW l b its.toArray its2.toArray n n2 none none sl sl2 (by simp; omega)) ⟨ho, ho2, ?_⟩
  rw [e]
  exact ⟨.ref _, _, I.lnew (t' := s.toks) (r.append r2) (by rw [List.length_append]; omega), rfl, q _ I.fresh⟩
theorem dn_cat {ys : List PyData} (ha : DE X E a (.list xs)) (hb : DE X E b (.list ys)) (hl : xs.length + ys.length ≤ sizeLine) : DN X E (.BinOp a .Add b pos) (.l ((xs ++ ys).map .d)) := by
  obtain ⟨ta, a1, a2⟩ := ha
  obtain ⟨tb, b1, b2⟩ := hb
  refine ⟨_, pe_op op_catS a1 b1, fun M L H σ Q I k => a2 M L H σ _ I fun v H1 s1 r1 => b2 M L H1 σ _ (I.same s1) fun w H2 s2 r2 => ?_⟩
  cases R.same (fz_same s2) _ _ r1 with
  | lst hs hr =>
    cases r2 with
    | lst hs2 hr2 => exact ⟨_, _, _, _, rfl, rfl, fz_sub.seq hs, fz_sub.seq hs2, by rw [hr.length, hr2.length]; exact hl, fun p hp => own_new I (s1.trans s2) (hr.append hr2) hp k⟩
theorem RA.rep {K : PySem.W.Frag} {H : Hp} {ds : List PyData} {vs : List V} (h : RA K H vs ds) : ∀ n : Nat, RA K H (List.replicate n vs).flatten (List.replicate n ds).flatten
  | 0 => .nil
  | n + 1 => by
    rw [List.replicate_succ, List.replicate_succ, List.flatten_cons, List.flatten_cons]
    exact h.append (RA.rep h n)
theorem rep_one {α : Type} (x : α) : ∀ n : Nat, (List.replicate n [x]).flatten = List.replicate n x
  | 0 => rfl
  | n + 1 => by
    rw [List.replicate_succ, List.flatten_cons, rep_one x n]
    rfl
/-- [x] * n -/
theorem dn_rep {p2 : Pos} (ha : DE X E a x) (hb : DE X E b (.int i)) (h0 : 0 ≤ i) (h : i ≤ 1000000) (hs : starEach [a] X.env = (false, eval a X.env) :: starEach [] X.env := by rfl) : DN X E (.BinOp (.List [a] p2) .Mult b pos) (.l ((List.replicate i.toNat x).map .d)) := by
  obtain ⟨ta, a1, a2⟩ := ha
  obtain ⟨tb, b1, b2⟩ := hb
  have hsz : sizeLine = 16777216 := sizeLine_eq
  refine ⟨_, pe_op op_rep (pe_lst (pa_cons a1 pa_nil hs)) b1, fun M L H σ Q I k => a2 M L H σ _ I fun v H1 s1 r1 => ⟨by show 1 ≤ sizeLine; omega, fun p hp => ?_⟩⟩
  have sp : Same H1 (upd H1 p (.lst [v])) := same_new hp
  refine b2 M L _ σ _ (I.same (s1.trans sp)) fun w H2 s2 r2 => ?_
  cases r2
  refine ⟨p, i, [v], rfl, rfl, s2 _ _ upd_same, by omega, by omega, by show 1 * i.toNat ≤ sizeLine; omega, fun p2 hp2 => ?_⟩
  have q1 : RA X.K (fz (L ++ M) H2) (List.replicate i.toNat [v]).flatten (List.replicate i.toNat x) := by
    rw [← rep_one x]
    exact RA.rep (RA.cons (R.same (fz_same (sp.trans s2)) _ _ r1) .nil) i.toNat
  exact own_new I ((s1.trans sp).trans s2) q1 hp2 k
end
end D

end

section
set_option Elab.async false
set_option linter.all false
set_option maxRecDepth 100000
set_option maxHeartbeats 2000000
namespace D
open PySem L2 PySem.Spec PyProof.Rows

/-! ### isinstance -/
def tyName : PyData → String
  | .none => "NoneType"
  | .bool _ => "bool"
  | .int _ => "int"
  | .str _ => "str"
  | .list _ => "list"
  | .tuple _ => "tuple"
  | .dict _ => "dict"
/-- the type of a value, exceptions too -/
def TyY (K : PySem.W.Frag) (H : Hp) (v : V) (t : Value) : Prop := TyX K H v t ∨ ∃ (a C : Addr) (d : Option Addr) (y : PyData), v = .ref a ∧ t = .ref C ∧ H a = some (ExZ C d a) ∧ ExcK K C ∧ FdR K H d y
theorem kit_ofY {X : Cx} {pins : List (Addr × Obj)} {σ : L2.St} {H : Hp} {s : Shared} {x : V} {u t : Value} (I : Inv X pins σ H s) (rx : RelV x u) (ty : TyY X.K H x t) : ∃ P : Heap → Prop, PySem.W.KitX X.K u t P ∧ P s.heap ∧ u ≠ .builtin "__main__.__loader__#opaque" := by
  rcases ty with ty | ⟨a, C, d, y, rfl, rfl, h, hk, hf⟩
  · exact kit_of I rx ty
  · cases (show u = Value.ref a from rx)
    obtain ⟨⟨oe, vs, e1, e2, e3⟩, _⟩ := (show ObjOk X.prog X.w H s.heap a (ExZ C d a) from I.hok a _ h)
    have hcl : (PySem.W.clsIn X.K C).isSome = true := by
      cases q : PySem.W.clsIn X.K C with
      | some cd => rfl
      | none =>
        have z := hk.e.hd
        unfold PySem.W.hasDictIn at z
        rw [q] at z
        cases z
    have one : ∀ od, PySem.W.InstAt s.heap a oe C od → ∃ P : Heap → Prop, PySem.W.KitX X.K (.ref a) (.ref C) P ∧ P s.heap ∧ (Value.ref a) ≠ .builtin "__main__.__loader__#opaque" := fun od J =>
      ⟨_, PySem.W.kitx_exc (od := od) (ox := oe) hcl hk.e.hg hk.e.hk hk.e.hs hk.e.ha hk.e.hn hk.e.ht hk.e.hm, J, fun z => nomatch z⟩
    have nc : PySem.W.notCls oe = true := by unfold PySem.W.notCls; rw [e3]
    have fld : ∀ {dx : Addr} {gs : List (Str × V)}, d = some dx → H dx = some (.xd gs) → ∃ P : Heap → Prop, PySem.W.KitX X.K (.ref a) (.ref C) P ∧ P s.heap ∧ (Value.ref a) ≠ .builtin "__main__.__loader__#opaque" := fun {dx gs} q hx => by
      obtain ⟨mA, hns, _⟩ := (show ObjOk X.prog X.w H s.heap dx (.xd gs) from I.hok dx _ hx)
      obtain ⟨od, ho, _⟩ := lookIn_ns hns
      exact one (some od) ⟨e1, e2.1, nc, by rw [e2.2, q]; exact ho⟩
    cases hf with
    | n => exact one none ⟨e1, e2.1, nc, by rw [e2.2]; trivial⟩
    | w hx _ => exact fld rfl hx
    | p hx => exact fld rfl hx
/-- isinstance(x, c), one class -/
def rIsY (K : PySem.W.Frag) : List V → Hp → VK → Prop := fun xs H Q => ∃ (x c : V) (t u : Value) (b : Bool), xs = [x, c] ∧ ClsV c u ∧ TyY K H x t ∧ PySem.W.kitOne K t u = some b ∧ Q (.bl b) H
def rIsTY (K : PySem.W.Frag) : List V → Hp → VK → Prop := fun xs H Q => ∃ (x : V) (tp : Addr) (cs : List V) (t : Value) (us : List Value) (b : Bool), xs = [x, .ref tp] ∧ H tp = some (.tup cs) ∧ Paired ClsV cs us ∧ TyY K H x t ∧ PySem.W.kitAny K t us = some b ∧ Q (.bl b) H
theorem call_isY {X : Cx} : CallR X (.builtin "isinstance") (rIsY X.K) := by
  intro pins s σ H xs us Q I r h
  obtain ⟨x, c, t, u, b, rfl, k, ty, e, q⟩ := h
  obtain ⟨u1, u2, rfl, r1, r2⟩ := vals2 r
  cases k.eq r2
  obtain ⟨P, Z, p, hx⟩ := kit_ofY I r1 ty
  exact PySem.W.kia_one Z I.kIn p e hx fun tk => ⟨.bl b, H, I.tok tk, rfl, q⟩
theorem call_isTY {X : Cx} : CallR X (.builtin "isinstance") (rIsTY X.K) := by
  intro pins s σ H xs us Q I r h
  obtain ⟨x, tp, cs, t, ws, b, rfl, hT, k, ty, e, q⟩ := h
  obtain ⟨u1, u2, rfl, r1, r2⟩ := vals2 r
  cases (show u2 = Value.ref tp from r2)
  obtain ⟨P, Z, p, hx⟩ := kit_ofY I r1 ty
  obtain ⟨_, its, rv, o, h1, h2, n, h3⟩ := (show ObjOk X.prog X.w H s.heap tp (.tup cs) from I.hok tp _ hT)
  have e3 := ClsV.all k rv
  subst e3
  obtain ⟨oc, od, dt, sl⟩ := o
  simp only at h2 h3
  subst h2 h3
  exact PySem.W.kia_tup Z I.kIn p h1 e hx fun tk => ⟨.bl b, H, I.tok tk, rfl, q⟩
theorem R.ty {K : PySem.W.Frag} {H : Hp} {v : V} {x : PyData} (r : R K H v x) : TyX K H v (.type (tyName x)) ∨ (∃ C, TyX K H v (.ref C) ∧ InsC K C ∧ x = .dict [(.int (C : Int), .none)]) ∨ ∃ C y, TyY K H v (.ref C) ∧ ExcK K C ∧ x = .dict [(.int (C : Int), y)] := by
  cases r with
  | non => exact .inl (.base .non)
  | bl b => exact .inl (.base (.bl b))
  | int i => exact .inl (.base (.int i))
  | str s => exact .inl (.base (.str s))
  | lst hs ha =>
    rcases hs with (h | ⟨o, h⟩) | ⟨o, its, n, h, hc, _⟩
    · exact .inl (.base (.lst h))
    · exact .inl (.base (.frz h))
    · exact .inl (.kList h hc)
  | tup hs ha =>
    rcases hs with (h | ⟨o, h⟩) | ⟨o, its, n, h, hc, _⟩
    · exact .inl (.base (.tup h))
    · exact .inl (.fTuple h)
    · exact .inl (.kTuple h hc)
  | dict0 h => exact .inl (.base (.dK h))
  | ins h hc => exact .inr (.inl ⟨_, .base (.ins h hc.cls hc.ha hc.hn hc.ht hc.hm), hc, rfl⟩)
  | exc h hc hf => exact .inr (.inr ⟨_, _, .inr ⟨_, _, _, _, rfl, rfl, h, hc, hf⟩, hc, rfl⟩)
def five (T : String) : Prop := T = "int" ∨ T = "bool" ∨ T = "tuple" ∨ T = "list" ∨ T = "str"
theorem R.kit {K : PySem.W.Frag} {H : Hp} {v : V} {x : PyData} {T : String} {p : Bool} (r : R K H v x) (hT : five T) (k : kitB (tyName x) T = some p) : ∃ t, TyY K H v t ∧ PySem.W.kitOne K t (.type T) = some p := by
  have five5 : ∀ {C : Addr}, tyName x = "dict" → (PySem.W.kitOne K (.ref C) (.type "int") = some false ∧ PySem.W.kitOne K (.ref C) (.type "bool") = some false ∧ PySem.W.kitOne K (.ref C) (.type "tuple") = some false ∧ PySem.W.kitOne K (.ref C) (.type "list") = some false ∧ PySem.W.kitOne K (.ref C) (.type "str") = some false) → PySem.W.kitOne K (.ref C) (.type T) = some p := fun {C} hd hk => by
    rw [hd] at k
    rcases hT with rfl | rfl | rfl | rfl | rfl
    · rw [(by decide +kernel : kitB "dict" "int" = some false)] at k
      cases k; exact hk.1
    · rw [(by decide +kernel : kitB "dict" "bool" = some false)] at k
      cases k; exact hk.2.1
    · rw [(by decide +kernel : kitB "dict" "tuple" = some false)] at k
      cases k; exact hk.2.2.1
    · rw [(by decide +kernel : kitB "dict" "list" = some false)] at k
      cases k; exact hk.2.2.2.1
    · rw [(by decide +kernel : kitB "dict" "str" = some false)] at k
      cases k; exact hk.2.2.2.2
  rcases r.ty with h | ⟨C, h, hc, rfl⟩ | ⟨C, y, h, hc, rfl⟩
  · exact ⟨_, .inl h, kit_ty k⟩
  · exact ⟨_, .inl h, five5 rfl ⟨hc.ki, hc.kb, hc.kt, hc.kl, hc.ks⟩⟩
  · exact ⟨_, h, five5 rfl ⟨hc.ki, hc.kb, hc.kt, hc.kl, hc.ks⟩⟩
def isInt : PyData → Bool
  | .int _ => true
  | .bool _ => true
  | _ => false
def isBool : PyData → Bool
  | .bool _ => true
  | _ => false
def isTuple : PyData → Bool
  | .tuple _ => true
  | _ => false
def isList : PyData → Bool
  | .list _ => true
  | _ => false
def isStr : PyData → Bool
  | .str _ => true
  | _ => false
theorem kit_int (x : PyData) : kitB (tyName x) "int" = some (isInt x) := by
  cases x
  · exact (by decide +kernel : kitB "NoneType" "int" = some false)
  · exact (by decide +kernel : kitB "bool" "int" = some true)
  · exact (by decide +kernel : kitB "int" "int" = some true)
  · exact (by decide +kernel : kitB "str" "int" = some false)
  · exact (by decide +kernel : kitB "list" "int" = some false)
  · exact (by decide +kernel : kitB "tuple" "int" = some false)
  · exact (by decide +kernel : kitB "dict" "int" = some false)
theorem kit_bool (x : PyData) : kitB (tyName x) "bool" = some (isBool x) := by
  cases x
  · exact (by decide +kernel : kitB "NoneType" "bool" = some false)
  · exact (by decide +kernel : kitB "bool" "bool" = some true)
  · exact (by decide +kernel : kitB "int" "bool" = some false)
  · exact (by decide +kernel : kitB "str" "bool" = some false)
  · exact (by decide +kernel : kitB "list" "bool" = some false)
  · exact (by decide +kernel : kitB "tuple" "bool" = some false)
  · exact (by decide +kernel : kitB "dict" "bool" = some false)
theorem kit_tuple (x : PyData) : kitB (tyName x) "tuple" = some (isTuple x) := by
  cases x
  · exact (by decide +kernel : kitB "NoneType" "tuple" = some false)
  · exact (by decide +kernel : kitB "bool" "tuple" = some false)
  · exact (by decide +kernel : kitB "int" "tuple" = some false)
  · exact (by decide +kernel : kitB "str" "tuple" = some false)
  · exact (by decide +kernel : kitB "list" "tuple" = some false)
  · exact (by decide +kernel : kitB "tuple" "tuple" = some true)
  · exact (by decide +kernel : kitB "dict" "tuple" = some false)
theorem kit_list (x : PyData) : kitB (tyName x) "list" = some (isList x) := by
  cases x
  · exact (by decide +kernel : kitB "NoneType" "list" = some false)
  · exact (by decide +kernel : kitB "bool" "list" = some false)
  · exact (by decide +kernel : kitB "int" "list" = some false)
  · exact (by decide +kernel : kitB "str" "list" = some false)
  · exact (by decide +kernel : kitB "list" "list" = some true)
  · exact (by decide +kernel : kitB "tuple" "list" = some false)
  · exact (by decide +kernel : kitB "dict" "list" = some false)
theorem kit_str (x : PyData) : kitB (tyName x) "str" = some (isStr x) := by
  cases x
  · exact (by decide +kernel : kitB "NoneType" "str" = some false)
  · exact (by decide +kernel : kitB "bool" "str" = some false)
  · exact (by decide +kernel : kitB "int" "str" = some false)
  · exact (by decide +kernel : kitB "str" "str" = some true)
  · exact (by decide +kernel : kitB "list" "str" = some false)
  · exact (by decide +kernel : kitB "tuple" "str" = some false)
  · exact (by decide +kernel : kitB "dict" "str" = some false)
section
variable {X : Cx} {E : List Sl} {e a b c : Expr} {es : List Expr} {x y z : PyData} {xs : List PyData} {pos : Pos} {i j : Int} {p q : Bool} {t u : OT} {ts : List OT} {s : Bool}
/-- isinstance(x, T) -/
theorem de_isi {T : String} {nT : Str} {nm pT : Pos} (k : kitB (tyName x) T = some p) (ha : DE X E a x) (hg : Gl X "isinstance") (hm : X.mg "isinstance" = none) (hgT : Gl X nT) (hmT : X.mg nT = none) (hT : bootBuiltins nT = some (.type T) := by decide +kernel)
    (hf : five T := by first | exact .inl rfl | exact .inr (.inl rfl) | exact .inr (.inr (.inl rfl)) | exact .inr (.inr (.inr (.inl rfl))) | exact .inr (.inr (.inr (.inr rfl)))) (hnT : nT ≠ "__name__" := by decide) (hdT : (nT == ("__debug__" : Str)) = false := by decide)
    (hs1 : starEach [a, .Name nT pT] X.env = (false, eval a X.env) :: starEach [.Name nT pT] X.env := by rfl) (hs2 : starEach [.Name nT pT] X.env = (false, eval (.Name nT pT) X.env) :: starEach [] X.env := by rfl)
    (hpl : (backTo pos (starEach [.Name nT pT] X.env)).any (·.1) = false := by rfl) : DE X E (.Call (.Name "isinstance" nm) [a, .Name nT pT] [] pos) (.bool p) := by
  obtain ⟨ta, a1, a2⟩ := ha
  have hc : PE X (.Name nT pT) (tC (.ty T)) := pe_bltn hgT hmT hT rfl hnT hdT
  refine ⟨_, pe_callB call_isY hg hm (by decide +kernel) (pa_cons a1 (pa_cons hc pa_nil hs2) hs1) (he := hs1) (hpl := hpl), fun M L H σ Q I k' => a2 M L H σ _ I fun v H1 s1 r1 => ?_⟩
  obtain ⟨t, k1, k2⟩ := (R.same fz_sub _ _ r1).kit hf k
  exact ⟨v, .ty T, t, .type T, p, rfl, .ty T, k1, k2, k' _ H1 s1 (.bl p)⟩

/-! ### built-ins on numbers -/
theorem de_abs {nm : Pos} (ha : DE X E a (.int i)) (hg : Gl X "abs") (hm : X.mg "abs" = none) (hs : starEach [a] X.env = (false, eval a X.env) :: starEach [] X.env := by rfl) : DE X E (.Call (.Name "abs" nm) [a] [] pos) (.int (i.natAbs : Int)) := by
  obtain ⟨ta, a1, a2⟩ := ha
  refine ⟨_, pe_callB call_abs hg hm (by decide +kernel) (pa_cons a1 pa_nil hs) (he := hs), fun M L H σ Q I k => a2 M L H σ _ I fun v H1 s1 r1 => ?_⟩
  cases r1
  refine ⟨i, rfl, ?_⟩
  have e : (if i < 0 then -i else i) = (i.natAbs : Int) := by split <;> omega
  rw [e]
  exact k _ H1 s1 (.int _)
theorem de_min2 {nm : Pos} (hc : X.calm = true) (ha : DE X E a (.int i)) (hb : DE X E b (.int j)) (hg : Gl X "min") (hm : X.mg "min" = none) (hs1 : starEach [a, b] X.env = (false, eval a X.env) :: starEach [b] X.env := by rfl) (hs : starEach [b] X.env = (false, eval b X.env) :: starEach [] X.env := by rfl)
    (hpl : (backTo pos (starEach [b] X.env)).any (·.1) = false := by rfl) : DE X E (.Call (.Name "min" nm) [a, b] [] pos) (.int (min i j)) := by
  obtain ⟨ta, a1, a2⟩ := ha
  obtain ⟨tb, b1, b2⟩ := hb
  refine ⟨_, pe_callB (call_min2 hc) hg hm (by decide +kernel) (pa_cons a1 (pa_cons b1 pa_nil hs) hs1) (he := hs1) (hpl := hpl), fun M L H σ Q I k => a2 M L H σ _ I fun v H1 s1 r1 => b2 M L H1 σ _ (I.same s1) fun w H2 s2 r2 => ?_⟩
  cases r1
  cases r2
  refine ⟨i, j, rfl, ?_⟩
  have e : (if j < i then j else i) = min i j := by split <;> omega
  rw [e]
  exact k _ H2 (s1.trans s2) (.int _)
theorem de_max2 {nm : Pos} (hc : X.calm = true) (ha : DE X E a (.int i)) (hb : DE X E b (.int j)) (hg : Gl X "max") (hm : X.mg "max" = none) (hs1 : starEach [a, b] X.env = (false, eval a X.env) :: starEach [b] X.env := by rfl) (hs : starEach [b] X.env = (false, eval b X.env) :: starEach [] X.env := by rfl)
    (hpl : (backTo pos (starEach [b] X.env)).any (·.1) = false := by rfl) : DE X E (.Call (.Name "max" nm) [a, b] [] pos) (.int (max i j)) := by
  obtain ⟨ta, a1, a2⟩ := ha
  obtain ⟨tb, b1, b2⟩ := hb
  refine ⟨_, pe_callB (call_max2 hc) hg hm (by decide +kernel) (pa_cons a1 (pa_cons b1 pa_nil hs) hs1) (he := hs1) (hpl := hpl), fun M L H σ Q I k => a2 M L H σ _ I fun v H1 s1 r1 => b2 M L H1 σ _ (I.same s1) fun w H2 s2 r2 => ?_⟩
  cases r1
  cases r2
  refine ⟨i, j, rfl, ?_⟩
  have e : (if j > i then j else i) = max i j := by split <;> omega
  rw [e]
  exact k _ H2 (s1.trans s2) (.int _)
theorem de_intB {nm : Pos} (ha : DE X E a (.bool p)) (hg : Gl X "int") (hm : X.mg "int" = none) (hs : starEach [a] X.env = (false, eval a X.env) :: starEach [] X.env := by rfl) : DE X E (.Call (.Name "int" nm) [a] [] pos) (.int (if p then 1 else 0)) := by
  obtain ⟨ta, a1, a2⟩ := ha
  refine ⟨_, pe_callTy call_int1 hg hm (by decide +kernel) (pa_cons a1 pa_nil hs) (he := hs), fun M L H σ Q I k => a2 M L H σ _ I fun v H1 s1 r1 => ?_⟩
  cases r1
  exact .inr ⟨p, rfl, k _ H1 s1 (.int _)⟩
theorem de_strI {nm : Pos} (ha : DE X E a (.int i)) (h : i.natAbs.log2 < 1920) (hg : Gl X "str") (hm : X.mg "str" = none) (hs : starEach [a] X.env = (false, eval a X.env) :: starEach [] X.env := by rfl) : DE X E (.Call (.Name "str" nm) [a] [] pos) (.str (toString i)) := by
  obtain ⟨ta, a1, a2⟩ := ha
  refine ⟨_, pe_callTy call_str_int hg hm (by decide +kernel) (pa_cons a1 pa_nil hs) (he := hs), fun M L H σ Q I k => a2 M L H σ _ I fun v H1 s1 r1 => ?_⟩
  cases r1
  exact ⟨i, rfl, h, k _ H1 s1 (.str _)⟩
/-- {} -/
theorem de_dict0 : DE X E (.Dict [] [] pos) (.dict []) := by
  refine ⟨_, pe_dnewK, fun M L H σ Q I k => ?_⟩
  intro d hd
  have nd : d ∉ L ++ M := fun z => I.dom d z hd
  exact k _ _ (same_new hd) (.dict0 (by rw [fz_of nd]; exact upd_same))
end

/-! ### what a def promises, by data alone -/
inductive Res where
  | ok (t : OT) | ex (C : Addr) (fs : Option (List (Str × OT)))
abbrev Res.v (x : PyData) : Res := .ok (.d x)
/-- fields of an exception -/
inductive FldR (K : PySem.W.Frag) (W : List Addr) (H : Hp) : List (Str × V) → List (Str × OT) → List Addr → Prop
  | nil : FldR K W H [] [] []
  | cons {f : Str} {v : V} {t : OT} {F : List Addr} {gs : List (Str × V)} {fs : List (Str × OT)} {G : List Addr} : Own K W H v t F → FldR K W H gs fs G → FldR K W H ((f, v) :: gs) ((f, t) :: fs) (F ++ G)
def PostR (K : PySem.W.Frag) (M : List Addr) (H : Hp) (Q : VK) (Ex : XK) : Res → Prop
  | .ok t => ∀ v H' F, Same H H' → F.Nodup → (∀ a ∈ F, H a = none) → Own K (F ++ M) H' v t F → Q v H'
  | .ex C none => ∀ H', Same H H' → Ex (.ref C) none H'
  | .ex C (some fs) => ∀ d gs H' F, Same H H' → H d = none → d ∉ F → H' d = some (.xd gs) → F.Nodup → (∀ a ∈ F, H a = none) → FldR K (F ++ M) H' gs fs F → Ex (.ref C) (some d) H'
def spD (K : PySem.W.Frag) (n : Nat) (Rf : List PyData → Res → Prop) : Sp := fun vs H Q Ex =>
  ∃ (M : List Addr) (xs : List PyData) (r : Res), xs.length = n ∧ (∀ a ∈ M, H a ≠ none) ∧ RA K (fz M H) vs xs ∧ Rf xs r ∧ PostR K M H Q Ex r
structure FnD (X : Cx) (f : Str) (n : Nat) (Rf : List PyData → Res → Prop) : Prop where
  ex : ∃ (g : Addr) (fd : FuncData) (ps : List Str) (k : Nat), FnOk X.prog X.w X.K X.mg X.base (L2.CX X.prog X.w) k g fd ps (spD X.K n Rf) ∧ Room k X.A ∧ X.mg f = some (.ref g) ∧ PySem.W.keepIn X.K (.ref g) = true ∧ Binds X.K fd ps []
section
variable {X : Cx} {E : List Sl} {e a b c : Expr} {es : List Expr} {x y z : PyData} {xs : List PyData} {pos : Pos} {t : OT} {f : Str} {n : Nat} {Rf : List PyData → Res → Prop}
theorem dn_call {nm : Pos} (F : FnD X f n Rf) (hg : Gl X f) (ha : DA X E (e :: es) xs) (h : Rf xs (.ok t)) (hn : xs.length = n := by rfl) (hdb : (f == ("__debug__" : Str)) = false := by decide) (he : starEach (e :: es) X.env = (false, eval e X.env) :: starEach es X.env := by rfl) (hpl : (backTo pos (starEach es X.env)).any (·.1) = false := by rfl) :
    DN X E (.Call (.Name f nm) (e :: es) [] pos) t := by
  obtain ⟨g, fd, ps, k, ok, hr, hm, hk, hb⟩ := F.ex
  obtain ⟨ta, a1, a2⟩ := ha
  refine ⟨_, pe_call ok hr hg hm hk hb .nil passL a1 hdb he hpl, fun M L H σ Q I kk => a2 M L H σ _ I fun vs H1 s1 r1 => ?_⟩
  refine ⟨L ++ M, xs, .ok t, hn, (I.same s1).dom, by rw [List.append_nil]; exact r1, h, fun v H' F s2 nF hF o => kk v H' F (s1.trans s2) nF (fun a ha => s1.free (hF a ha)) o⟩
theorem de_call {nm : Pos} (F : FnD X f n Rf) (hg : Gl X f) (ha : DA X E (e :: es) xs) (h : Rf xs (.ok (.d y))) (hn : xs.length = n := by rfl) (hdb : (f == ("__debug__" : Str)) = false := by decide) (he : starEach (e :: es) X.env = (false, eval e X.env) :: starEach es X.env := by rfl) (hpl : (backTo pos (starEach es X.env)).any (·.1) = false := by rfl) :
    DE X E (.Call (.Name f nm) (e :: es) [] pos) y := (dn_call F hg ha h hn hdb he hpl).toE
end

/-! ### statements -/
inductive Out where
  | nx (E : List Sl) | bk (E : List Sl) | ct (E : List Sl) | rt (t : OT) | ex (C : Addr) (fs : Option (List (Str × OT))) (E : List Sl)
structure Step (L : List Addr) (H : Hp) (L' : List Addr) (H' : Hp) : Prop where
  keep : ∀ a o, a ∉ L → H a = some o → H' a = some o
  new : ∀ a ∈ L', a ∈ L ∨ H a = none
  there : ∀ a, H a ≠ none → H' a ≠ none
theorem Step.refl (L : List Addr) (H : Hp) : Step L H L H := ⟨fun _ _ _ h => h, fun _ h => .inl h, fun _ h => h⟩
theorem Step.trans {L L' L'' : List Addr} {H H' H'' : Hp} (a : Step L H L' H') (b : Step L' H' L'' H'') : Step L H L'' H'' := by
  refine ⟨fun c o n h => b.keep c o (fun z => ?_) (a.keep c o n h), fun c hc => ?_, fun c h => b.there c (a.there c h)⟩
  · rcases a.new c z with q | q
    · exact n q
    · rw [q] at h; cases h
  · rcases b.new c hc with q | q
    · exact a.new c q
    · by_cases n : c ∈ L
      · exact .inl n
      · refine .inr ?_
        cases g : H c with
        | none => rfl
        | some o => rw [a.keep c o n g] at q; cases q
theorem Step.same {L : List Addr} {H H' : Hp} (e : Same H H') : Step L H L H' := ⟨fun a o _ h => e a o h, fun _ h => .inl h, fun _ h => not_none_same e h⟩
theorem Step.more {L F : List Addr} {H H' : Hp} (e : Same H H') (hF : ∀ a ∈ F, H a = none) : Step L H (F ++ L) H' := ⟨fun a o _ h => e a o h, fun a ha => (List.mem_append.mp ha).elim (fun z => .inr (hF a z)) .inl, fun _ h => not_none_same e h⟩
theorem Step.fz {L L' M : List Addr} {H H' : Hp} (s : Step L H L' H') : Same (fz (L ++ M) H) (fz (L' ++ M) H') := fz_mono fun a o n e => by
  have n1 : a ∉ L := fun z => n (List.mem_append_left _ z)
  have n2 : a ∉ M := fun z => n (List.mem_append_right _ z)
  refine ⟨fun z => ?_, s.keep a o n1 e⟩
  rcases List.mem_append.mp z with z | z
  · rcases s.new a z with q | q
    · exact n1 q
    · rw [q] at e; cases e
  · exact n2 z
structure PostOk (K : PySem.W.Frag) (M L : List Addr) (H : Hp) (P : Out → Prop) (D : Ends) (W : WX) : Prop where
  nx : ∀ E' L' H' σ', P (.nx E') → Step L H L' H' → EnvR K M L' H' σ' E' → D.nx σ' H'
  bk : ∀ E' L' H' σ', P (.bk E') → Step L H L' H' → EnvR K M L' H' σ' E' → D.bk σ' H'
  ct : ∀ E' L' H' σ', P (.ct E') → Step L H L' H' → EnvR K M L' H' σ' E' → D.ct σ' H'
  rt : ∀ t v L' H' F, P (.rt t) → Step L H L' H' → (∀ a ∈ L' ++ M, H' a ≠ none) → (∀ a ∈ F, a ∈ L') → F.Nodup → Own K (L' ++ M) H' v t F → D.rt v H'
  ex : ∀ C E' L' H' σ', P (.ex C none E') → Step L H L' H' → EnvR K M L' H' σ' E' → W (.ref C) none σ' H'
  exd : ∀ C fs E' L' H' σ' d gs F, P (.ex C (some fs) E') → Step L H L' H' → EnvR K M L' H' σ' E' → H d = none → d ∉ L' → H' d = some (.xd gs) → F.Nodup → (∀ a ∈ F, H a = none ∧ a ∉ L' ∧ d ≠ a) → FldR K (F ++ (L' ++ M)) H' gs fs F → W (.ref C) (some d) σ' H'
theorem PostOk.step {K : PySem.W.Frag} {M L L1 : List Addr} {H H1 : Hp} {P : Out → Prop} {D : Ends} {W : WX} (h : PostOk K M L H P D W) (s : Step L H L1 H1) : PostOk K M L1 H1 P D W := by
  have fr : ∀ a, H1 a = none → H a = none := fun a e => by
    cases g : H a with
    | none => rfl
    | some o => exact absurd e (s.there a (by rw [g]; exact fun z => by cases z))
  refine ⟨fun E' L' H' σ' p t I => h.nx E' L' H' σ' p (s.trans t) I, fun E' L' H' σ' p t I => h.bk E' L' H' σ' p (s.trans t) I, fun E' L' H' σ' p t I => h.ct E' L' H' σ' p (s.trans t) I,
    fun t v L' H' F p q dm hF nF o => h.rt t v L' H' F p (s.trans q) dm hF nF o, fun C E' L' H' σ' p t I => h.ex C E' L' H' σ' p (s.trans t) I, ?_⟩
  intro C fs E' L' H' σ' d gs F p t I hd hdL hdx nF hF r
  exact h.exd C fs E' L' H' σ' d gs F p (s.trans t) I (fr d hd) hdL hdx nF (fun a ha => ⟨fr a (hF a ha).1, (hF a ha).2⟩) r
end D

end

section
set_option Elab.async false
set_option linter.all false
set_option maxRecDepth 100000
set_option maxHeartbeats 2000000
namespace D
open PySem L2 PySem.Spec PyProof.Rows

def tAll (X : Cx) (sts : List Stmt) : TS := fun D σ H => ∃ t, PSs X sts t ∧ t D σ H
theorem pss_all {X : Cx} {sts : List Stmt} : PSs X sts (tAll X sts) := ⟨fun pins s σ H D I ⟨t, h, q⟩ => h.run pins s σ H D I q⟩
structure DS (X : Cx) (W : WX) (st : Stmt) (E : List Sl) (P : Out → Prop) : Prop where
  run : ∀ (M L : List Addr) (H : Hp) (σ : L2.St) (D : Ends), EnvR X.K M L H σ E → PostOk X.K M L H P D W → ∃ t, PS X st t ∧ t D σ H
structure DSs (X : Cx) (W : WX) (sts : List Stmt) (E : List Sl) (P : Out → Prop) : Prop where
  run : ∀ (M L : List Addr) (H : Hp) (σ : L2.St) (D : Ends), EnvR X.K M L H σ E → PostOk X.K M L H P D W → ∃ t, PSs X sts t ∧ t D σ H
/-- the wish for what goes on, the rest as it was -/
def th (Q : List Sl → Prop) (P : Out → Prop) : Out → Prop
  | .nx E => Q E
  | o => P o
/-- a loop's body: what a turn is to reach, what stands behind the loop -/
def lp (I N : List Sl → Prop) (P : Out → Prop) : Out → Prop
  | .nx E => I E
  | .ct E => I E
  | .bk E => N E
  | o => P o
theorem PostOk.imp {K : PySem.W.Frag} {M L : List Addr} {H : Hp} {P P' : Out → Prop} {D : Ends} {W : WX} (h : PostOk K M L H P D W) (q : ∀ o, P' o → P o) : PostOk K M L H P' D W :=
  ⟨fun E' L' H' σ' p => h.nx E' L' H' σ' (q _ p), fun E' L' H' σ' p => h.bk E' L' H' σ' (q _ p), fun E' L' H' σ' p => h.ct E' L' H' σ' (q _ p), fun t v L' H' F p => h.rt t v L' H' F (q _ p), fun C E' L' H' σ' p => h.ex C E' L' H' σ' (q _ p),
    fun C fs E' L' H' σ' d gs F p => h.exd C fs E' L' H' σ' d gs F (q _ p)⟩
section
variable {X : Cx} {W : WX} {st : Stmt} {sts rest bod els : List Stmt} {E E' : List Sl} {P P' : Out → Prop} {Q : List Sl → Prop} {e a b c : Expr} {x y z : PyData} {xs : List PyData} {pos : Pos} {t : OT} {p : Bool}
theorem DSs.imp (h : DSs X W sts E P) (q : ∀ o, P o → P' o) : DSs X W sts E P' := ⟨fun M L H σ D I k => h.run M L H σ D I (k.imp q)⟩
theorem DS.imp (h : DS X W st E P) (q : ∀ o, P o → P' o) : DS X W st E P' := ⟨fun M L H σ D I k => h.run M L H σ D I (k.imp q)⟩
theorem ds_nil (h : P (.nx E)) : DSs X W [] E P := ⟨fun M L H σ D I k => ⟨_, pss_nil, k.nx E L H σ h (Step.refl L H) I⟩⟩
theorem ds_never (h : False) : DSs X W sts E P := h.elim
theorem ds_seq (h1 : DS X W st E (th Q P)) (h2 : ∀ E', Q E' → DSs X W rest E' P) : DSs X W (st :: rest) E P := by
  refine ⟨fun M L H σ D I k => ?_⟩
  have kk : PostOk X.K M L H (th Q P) { D with nx := tAll X rest D } W := ⟨fun E' L' H' σ' q s J => (h2 E' q).run M L' H' σ' D J (k.step s), k.bk, k.ct, k.rt, k.ex, k.exd⟩
  obtain ⟨t, a1, a2⟩ := h1.run M L H σ { D with nx := tAll X rest D } I kk
  exact ⟨_, pss_cons a1 pss_all, a2⟩
/-- a statement behind which the names are E' -/
theorem ds_then (h1 : DS X W st E (th (· = E') P)) (h2 : DSs X W rest E' P) : DSs X W (st :: rest) E P := ds_seq h1 fun _ q => q ▸ h2
/-- the last statement -/
theorem ds_last (h1 : DS X W st E P) : DSs X W [st] E P := by
  refine ⟨fun M L H σ D I k => ?_⟩
  obtain ⟨t, a1, a2⟩ := h1.run M L H σ D I k
  exact ⟨_, pss_one a1, a2⟩
theorem ds_if (hc : DT X E c p) (ha : p = true → DSs X W bod E P) (hb : p = false → DSs X W els E P) : DS X W (.If c bod els pos) E P := by
  obtain ⟨tc, c1, c2⟩ := hc
  refine ⟨fun M L H σ D I k => ⟨_, ps_if c1 pss_all pss_all, c2 M L H σ _ I fun H1 s1 => ?_⟩⟩
  cases p with
  | true => exact iteT ((ha rfl).run M L H1 σ D (I.same s1) (k.step (Step.same s1)))
  | false => exact iteF ((hb rfl).run M L H1 σ D (I.same s1) (k.step (Step.same s1)))
/-- if c: .. that doesn't go on; rest -/
theorem ds_ifr (hc : DT X E c p) (ha : p = true → DSs X W bod E (th (fun _ => False) P)) (hr : p = false → DSs X W rest E P) : DSs X W (.If c bod [] pos :: rest) E P :=
  ds_seq (Q := fun E' => p = false ∧ E' = E) (ds_if hc (fun q => (ha q).imp fun o h => by cases o <;> first | exact h.elim | exact h) fun q => ds_nil ⟨q, rfl⟩) fun E' ⟨q, e⟩ => e ▸ hr q
/-- both ways go on with the names E' -/
theorem ds_ifn (hc : DT X E c p) (ha : p = true → DSs X W bod E (th (· = E') P)) (hb : p = false → DSs X W els E (th (· = E') P)) (hr : DSs X W rest E' P) : DSs X W (.If c bod els pos :: rest) E P :=
  ds_then (ds_if hc ha hb) hr
theorem ds_pass : DS X W (.Pass pos) E (th (· = E) P) := ⟨fun M L H σ D I k => ⟨_, ps_pass, k.nx E L H σ rfl (Step.refl L H) I⟩⟩
theorem ds_break (h : P (.bk E)) : DSs X W (.Break pos :: rest) E P := ⟨fun M L H σ D I k => ⟨_, pss_cons ps_break pss_all, k.bk E L H σ h (Step.refl L H) I⟩⟩
theorem ds_cont (h : P (.ct E)) : DSs X W (.Continue pos :: rest) E P := ⟨fun M L H σ D I k => ⟨_, pss_cons ps_continue pss_all, k.ct E L H σ h (Step.refl L H) I⟩⟩
theorem ds_doc {j p2} {s : Str} : DS X W (.Expr (.Constant (.str s) j pos) p2) E (th (· = E) P) := ⟨fun M L H σ D I k => ⟨_, ps_doc, k.nx E L H σ rfl (Step.refl L H) I⟩⟩
/-- return e -/
theorem ds_ret (he : DB X E e t) (h : P (.rt t)) : DSs X W (.Return (some e) pos :: rest) E P := by
  obtain ⟨te, e1, e2⟩ := he
  exact ⟨fun M L H σ D I k => ⟨_, pss_cons (ps_ret e1) pss_all, e2 M L H σ _ I fun v H1 F s1 nF hF o => k.rt t v L H1 F h (Step.same s1) (I.same s1).dom hF nF o⟩⟩
theorem ds_retN (he : DN X E e t) (h : P (.rt t)) : DSs X W (.Return (some e) pos :: rest) E P := by
  obtain ⟨te, e1, e2⟩ := he
  refine ⟨fun M L H σ D I k => ⟨_, pss_cons (ps_ret e1) pss_all, e2 M L H σ _ I fun v H1 F s1 nF hF o => k.rt t v (F ++ L) H1 F h (Step.more s1 hF) (fun a ha => ?_) (fun a ha => List.mem_append_left _ ha) nF (by rw [List.append_assoc]; exact o)⟩⟩
  rw [List.append_assoc] at ha
  rcases List.mem_append.mp ha with z | z
  · obtain ⟨_, vs, q⟩ := Own.sub _ _ _ o a z
    rw [q]
    exact fun z => by cases z
  · exact (I.same s1).dom a z
theorem ds_retD (he : DE X E e x) (h : P (.rt (.d x))) : DSs X W (.Return (some e) pos :: rest) E P := ds_ret he.toB h
theorem ds_ret0 (h : P (.rt (.d .none))) : DSs X W (.Return none pos :: rest) E P := ⟨fun M L H σ D I k => ⟨_, pss_cons ps_retN pss_all, k.rt _ .non L H [] h (Step.refl L H) I.dom (fun a ha => by cases ha) List.nodup_nil (.d .non)⟩⟩

/-! names -/
structure LocN (X : Cx) (i : Nat) (x : Str) : Prop where
  nd : X.N.Nodup
  ix : X.N[i]? = some x
  loc : Loc X.env.scope x
  fn : X.fn x = true ∨ X.env.scope.names.lookup x = some .local
theorem ln (i : Nat) {X : Cx} {x : Str} (nd : X.N.Nodup) (ix : X.N[i]? = some x := by rfl) (loc : Loc X.env.scope x := by first | exact Or.inl rfl | exact Or.inr rfl) (fn : X.fn x = true ∨ X.env.scope.names.lookup x = some .local := by first | exact Or.inl rfl | exact Or.inr rfl) : LocN X i x := ⟨nd, ix, loc, fn⟩
/-- x = e, e new -/
theorem ds_setN {i : Nat} {n : Str} {p2 : Pos} (N : LocN X i n) (he : DN X E e t) (hE : E.set i (.o t) = E' := by rfl) (hi : Nat.ble (i + 1) E.length = true := by rfl) (hs : swapsWith e (some (.Name n p2)) pos.line X.env = pure false := by rfl) :
    DS X W (.Assign [.Name n p2] e pos) E (th (· = E') P) := by
  obtain ⟨te, e1, e2⟩ := he
  refine ⟨fun M L H σ D I k => ⟨_, ps_set N.nd N.ix N.loc e1 hs N.fn, e2 M L H σ _ I fun v H1 F s1 nF hF o => ?_⟩⟩
  exact k.nx E' (F ++ L) H1 _ rfl (Step.more s1 hF) (hE ▸ I.setN (Nat.le_of_ble_eq_true hi) s1 hF nF o)
theorem ds_set {i : Nat} {n : Str} {p2 : Pos} (N : LocN X i n) (he : DE X E e x) (hE : E.set i (.o (.d x)) = E' := by rfl) (hi : Nat.ble (i + 1) E.length = true := by rfl) (hs : swapsWith e (some (.Name n p2)) pos.line X.env = pure false := by rfl) :
    DS X W (.Assign [.Name n p2] e pos) E (th (· = E') P) := ds_setN N he.toN hE hi hs
/-- x, y = a, b -/
theorem ds_par {i j : Nat} {n m : Str} {px py pt : Pos} {kt k2 pt2} (hc : X.calm = true) (N : LocN X i n) (M2 : LocN X j m) (hij : i ≠ j) (ha : DE X E a x) (hb : DE X E b y) (hl1 : X.env.scope.names.lookup n = some .local) (hl2 : X.env.scope.names.lookup m = some .local)
    (hw : swappedStores [.Tuple [.Name n px, .Name m py] kt pt] (.Tuple [a, b] k2 pt2) X.env = pure (some [n, m]))
    (hE : (E.set i (.o (.d x))).set j (.o (.d y)) = E' := by rfl) (hi : Nat.ble (i + 1) E.length = true := by rfl) (hj : Nat.ble (j + 1) E.length = true := by rfl)
    (hs : swapsWithSole [.Tuple [.Name n px, .Name m py] kt pt] (.Tuple [a, b] k2 pt2) pos.line X.env = pure false := by rfl)
    (hs1 : starEach [a, b] X.env = (false, eval a X.env) :: starEach [b] X.env := by rfl) (hs2 : starEach [b] X.env = (false, eval b X.env) :: starEach [] X.env := by rfl) :
    DS X W (.Assign [.Tuple [.Name n px, .Name m py] kt pt] (.Tuple [a, b] k2 pt2) pos) E (th (· = E') P) := by
  obtain ⟨ta, a1, a2⟩ := ha
  obtain ⟨tb, b1, b2⟩ := hb
  refine ⟨fun M L H σ D I k => ⟨_, L2.ps_par hc N.nd N.ix M2.ix hij hl1 hl2 (pa_cons a1 (pa_cons b1 pa_nil hs2) hs1) hw hs, a2 M L H σ _ I fun v H1 s1 r1 => b2 M L H1 σ _ (I.same s1) fun w H2 s2 r2 => ⟨v, w, rfl, ?_⟩⟩⟩
  have I2 := I.same (s1.trans s2)
  exact k.nx E' L H2 _ rfl (Step.same (s1.trans s2)) (hE ▸ (I2.setD (Nat.le_of_ble_eq_true hi) (R.same (fz_same s2) _ _ r1)).setD (by rw [List.length_set]; exact Nat.le_of_ble_eq_true hj) r2)
/-- a statement that is an expression -/
theorem ds_expr (he : DE X E e x) (hs : swapsWith e none pos.line X.env = pure false := by rfl) : DS X W (.Expr e pos) E (th (· = E) P) := by
  obtain ⟨te, e1, e2⟩ := he
  exact ⟨fun M L H σ D I k => ⟨_, ps_expr e1 hs, e2 M L H σ _ I fun v H1 s1 r1 => k.nx E L H1 σ rfl (Step.same s1) (I.same s1)⟩⟩

/-! targets -/
/-- only these places may have changed -/
structure Chg (sl : List Nat) (σ σ' : L2.St) : Prop where
  len : σ'.length = σ.length
  get : ∀ j, j ∉ sl → σ'[j]? = σ[j]?
theorem Chg.refl (sl : List Nat) (σ : L2.St) : Chg sl σ σ := ⟨rfl, fun _ _ => rfl⟩
theorem Chg.trans {sl sl' : List Nat} {σ σ' σ'' : L2.St} (a : Chg sl σ σ') (b : Chg sl' σ' σ'') : Chg (sl ++ sl') σ σ'' :=
  ⟨b.len.trans a.len, fun j n => (b.get j fun z => n (List.mem_append_right _ z)).trans (a.get j fun z => n (List.mem_append_left _ z))⟩
theorem Chg.set (i : Nat) (σ : L2.St) (v : Option V) : Chg [i] σ (σ.set i v) := ⟨by rw [List.length_set], fun j n => by
  rw [List.getElem?_set_ne]
  intro e
  exact n (by simp [e])⟩
structure TgR (X : Cx) (tg : Expr) (f : PyData → List Sl → Option (List Sl)) (sl : List Nat) : Prop where
  ex : ∃ g, PG X tg g ∧ ∀ (M L : List Addr) (H : Hp) (σ : L2.St) (v : V) (x : PyData) (E E' : List Sl) (Q : L2.St → Hp → Prop), EnvR X.K M L H σ E → R X.K (fz (L ++ M) H) v x → f x E = some E' → (∀ σ', EnvR X.K M L H σ' E' → Chg sl σ σ' → Q σ' H) → g v σ H Q
structure TgsR (X : Cx) (ts : List Expr) (f : List PyData → List Sl → Option (List Sl)) (sl : List Nat) : Prop where
  ex : ∃ g, PGs X ts g ∧ ∀ (M L : List Addr) (H : Hp) (σ : L2.St) (vs : List V) (xs : List PyData) (E E' : List Sl) (Q : L2.St → Hp → Prop), EnvR X.K M L H σ E → RA X.K (fz (L ++ M) H) vs xs → f xs E = some E' → (∀ σ', EnvR X.K M L H σ' E' → Chg sl σ σ' → Q σ' H) → g vs σ H Q
def fName (i : Nat) : PyData → List Sl → Option (List Sl) := fun x E => if i < E.length then some (E.set i (.o (.d x))) else none
def fTup (f : List PyData → List Sl → Option (List Sl)) : PyData → List Sl → Option (List Sl) := fun x E => match x with
  | .tuple xs => f xs E
  | _ => none
def fNil : List PyData → List Sl → Option (List Sl) := fun xs E => match xs with
  | [] => some E
  | _ => none
def fCons (f : PyData → List Sl → Option (List Sl)) (g : List PyData → List Sl → Option (List Sl)) : List PyData → List Sl → Option (List Sl) := fun xs E => match xs with
  | x :: xs => (f x E).bind (g xs)
  | _ => none
theorem tg_name {i : Nat} {n : Str} (N : LocN X i n) : TgR X (.Name n pos) (fName i) [i] := by
  refine ⟨_, pg_name N.nd N.ix N.loc N.fn, fun M L H σ v x E E' Q I r h k => ?_⟩
  unfold fName at h
  split at h
  · cases h
    exact k _ (I.setD (by assumption) r) (Chg.set _ _ _)
  · cases h
theorem tgs_nil : TgsR X [] fNil [] := by
  refine ⟨_, pgs_nil, fun M L H σ vs xs E E' Q I r h k => ?_⟩
  cases r with
  | nil =>
    cases h
    exact ⟨rfl, k σ I (Chg.refl _ _)⟩
  | cons => cases h
theorem tgs_cons {e : Expr} {es : List Expr} {f : PyData → List Sl → Option (List Sl)} {g : List PyData → List Sl → Option (List Sl)} {s1 s2 : List Nat} (h1 : TgR X e f s1) (h2 : TgsR X es g s2) (hs : (assignEach (e :: es) X.env).map (·.2) = assign e X.env :: (assignEach es X.env).map (·.2) := by rfl) : TgsR X (e :: es) (fCons f g) (s1 ++ s2) := by
  obtain ⟨g1, a1, a2⟩ := h1
  obtain ⟨g2, b1, b2⟩ := h2
  refine ⟨_, pgs_cons a1 b1 hs, fun M L H σ vs xs E E' Q I r h k => ?_⟩
  cases r with
  | nil => cases h
  | cons r1 r2 =>
    rename_i x xs
    have h' : (f x E).bind (g xs) = some E' := h
    cases q : f x E with
    | none => rw [q] at h'; cases h'
    | some E1 =>
      rw [q] at h'
      exact ⟨_, _, rfl, a2 M L H σ _ _ E E1 _ I r1 q fun σ' J hl => b2 M L H σ' _ _ E1 E' Q J r2 h' fun σ2 J2 hl2 => k σ2 J2 (hl.trans hl2)⟩
theorem tg_tup {es : List Expr} {kk : Nat} {f : List PyData → List Sl → Option (List Sl)} {sl : List Nat} (hc : X.calm = true) (h : TgsR X es f sl) (n : Nat) (hf : ∀ xs E E', f xs E = some E' → xs.length = n)
    (hn : (assignEach es X.env).length = n := by rfl) (hst : (assignEach es X.env).findIdx? (·.1) = none := by rfl) : TgR X (.Tuple es kk pos) (fTup f) sl := by
  obtain ⟨g, a1, a2⟩ := h
  refine ⟨_, pg_tup hc a1 hn hst, fun M L H σ v x E E' Q I r h k => ?_⟩
  cases r with
  | tup hs hr => exact ⟨_, _, rfl, same_t fz_sub hs, by rw [hr.length]; exact hf _ _ _ h, a2 M L H σ _ _ E E' Q I hr h k⟩
  | _ => cases h
theorem f2_len {f g : PyData → List Sl → Option (List Sl)} : ∀ xs E E', fCons f (fCons g fNil) xs E = some E' → xs.length = 2
  | [], _, _, h => by cases h
  | [x], E, _, h => by
    have h' : (f x E).bind (fCons g fNil []) = some _ := h
    cases q : f x E with
    | none => rw [q] at h'; cases h'
    | some E1 => rw [q] at h'; cases h'
  | [x, y], _, _, _ => rfl
  | x :: y :: z :: r, E, _, h => by
    have h' : (f x E).bind (fCons g fNil (y :: z :: r)) = some _ := h
    cases q : f x E with
    | none => rw [q] at h'; cases h'
    | some E1 =>
      rw [q] at h'
      have h2 : (g y E1).bind (fNil (z :: r)) = some _ := h'
      cases q2 : g y E1 with
      | none => rw [q2] at h2; cases h2
      | some E2 => rw [q2] at h2; cases h2
/-- two targets -/
theorem tg_two {a b : Expr} {kk : Nat} {f g : PyData → List Sl → Option (List Sl)} {s1 s2 : List Nat} (hc : X.calm = true) (h1 : TgR X a f s1) (h2 : TgR X b g s2) (hs1 : (assignEach [a, b] X.env).map (·.2) = assign a X.env :: (assignEach [b] X.env).map (·.2) := by rfl) (hs2 : (assignEach [b] X.env).map (·.2) = assign b X.env :: (assignEach [] X.env).map (·.2) := by rfl)
    (hn : (assignEach [a, b] X.env).length = 2 := by rfl) (hst : (assignEach [a, b] X.env).findIdx? (·.1) = none := by rfl) : TgR X (.Tuple [a, b] kk pos) (fTup (fCons f (fCons g fNil))) (s1 ++ (s2 ++ [])) :=
  tg_tup hc (tgs_cons h1 (tgs_cons h2 tgs_nil hs2) hs1) 2 f2_len hn hst
/-- target = e -/
theorem ds_asg {tg : Expr} {f : PyData → List Sl → Option (List Sl)} {sl : List Nat} (T : TgR X tg f sl) (he : DE X E e x) (h : f x E = some E' := by rfl) (hs : swapsWithSole [tg] e pos.line X.env = pure false := by rfl) (hw : swappedStores [tg] e X.env = pure none := by rfl) (h1 : (assignEach [tg] X.env).map (·.2) = [assign tg X.env] := by rfl) : DS X W (.Assign [tg] e pos) E (th (· = E') P) := by
  obtain ⟨g, g1, g2⟩ := T
  obtain ⟨te, e1, e2⟩ := he
  exact ⟨fun M L H σ D I k => ⟨_, ps_asg e1 g1 hs hw h1, e2 M L H σ _ I fun v H1 s1 r1 => g2 M L H1 σ v x E E' _ (I.same s1) r1 h fun σ' J _ => k.nx E' L H1 σ' rfl (Step.same s1) J⟩⟩

/-! what a loop walks -/
def WalkD (K : PySem.W.Frag) (J : It) (W0 : List Addr) (H0 : Hp) (xs : List PyData) : Prop :=
  ∃ (G : Hp → Prop) (Y : Nat → Hp → V → Hp → Prop), Walk J xs.length G Y ∧ (∀ W H, Same (fz W0 H0) (fz W H) → G H) ∧
    ∀ W H i v H', Same (fz W0 H0) (fz W H) → (∀ a ∈ W, H a ≠ none) → i < xs.length → Y i H v H' → Same H H' ∧ ∃ x, xs[i]? = some x ∧ R K (fz W H') v x
structure DI (X : Cx) (E : List Sl) (tg it : Expr) (xs : List PyData) : Prop where
  run : ∀ (M L : List Addr) (H : Hp) (σ : L2.St) (Rr : It → Hp → Prop), EnvR X.K M L H σ E → (∀ J H1, Same H H1 → WalkD X.K J (L ++ M) H1 xs → Rr J H1) → ∃ wi, PI X tg it wi ∧ wi σ H Rr
theorem walkd_at {K : PySem.W.Frag} {J : It} {W0 : List Addr} {H0 : Hp} {vs : List V} {G : Hp → Prop} (w : Walk J vs.length G (YAt vs)) (r : RA K (fz W0 H0) vs xs) (g : ∀ W H, Same (fz W0 H0) (fz W H) → G H) : WalkD K J W0 H0 xs := by
  refine ⟨G, YAt vs, r.length ▸ w, g, fun W H i v H' s _ hi y => ?_⟩
  obtain ⟨rfl, e⟩ := y
  obtain ⟨x, h1, h2⟩ := RA.getV r e
  exact ⟨Same.refl _, x, h1, R.same s _ _ h2⟩
theorem di_list {tg : Expr} (ha : DE X E a (.list xs)) : DI X E tg a xs := by
  obtain ⟨ta, a1, a2⟩ := ha
  refine ⟨fun M L H σ Rr I k => ⟨_, pi_list a1, a2 M L H σ _ I fun v H1 s1 r1 => ?_⟩⟩
  cases r1 with
  | lst hs hr => exact ⟨_, rfl, ⟨_, fz_sub.seq hs⟩, k _ H1 s1 (walkd_at walk_list hr fun W H s => fz_sub.seq (s.seq hs))⟩
theorem di_tup {tg : Expr} (ha : DE X E a (.tuple xs)) : DI X E tg a xs := by
  obtain ⟨ta, a1, a2⟩ := ha
  refine ⟨fun M L H σ Rr I k => ⟨_, pi_tup a1, a2 M L H σ _ I fun v H1 s1 r1 => ?_⟩⟩
  cases r1 with
  | tup hs hr => exact ⟨_, rfl, ⟨_, same_t fz_sub hs⟩, k _ H1 s1 (walkd_at walk_tup hr fun W H s => same_t fz_sub (same_t s hs))⟩
/-- lo, lo + 1, .. -/
def nums (lo : Int) (n : Nat) : List PyData := (List.range n).map fun (k : Nat) => .int (lo + (k : Int))
theorem nums_len {lo : Int} {n : Nat} : (nums lo n).length = n := by simp [nums]
theorem nums_get {lo : Int} {n i : Nat} (h : i < n) : (nums lo n)[i]? = some (.int (lo + (i : Int))) := by simp [nums, h]
theorem walkd_range {K : PySem.W.Frag} {W0 : List Addr} {H0 : Hp} {lo : Int} {n : Nat} : WalkD K (Itr lo n) W0 H0 (nums lo n) := by
  refine ⟨fun _ => True, (YFn fun i => .int (lo + i)), by rw [nums_len]; exact walk_range, fun _ _ _ => trivial, fun W H i v H' _ _ hi y => ?_⟩
  obtain ⟨rfl, rfl⟩ := y
  rw [nums_len] at hi
  exact ⟨Same.refl _, _, nums_get hi, .int _⟩
theorem di_range1 {tg : Expr} {nm : Pos} {n : Int} (ha : DE X E a (.int n)) (hb : -(2 ^ 62) ≤ n ∧ n < 2 ^ 62) (hg : Gl X "range") (hm : X.mg "range" = none) (hs : starEach [a] X.env = [(false, eval a X.env)] := by rfl) : DI X E tg (.Call (.Name "range" nm) [a] [] pos) (nums 0 n.toNat) := by
  obtain ⟨ta, a1, a2⟩ := ha
  refine ⟨fun M L H σ Rr I k => ⟨_, pi_range1 hg hm (pa_cons a1 pa_nil (by rw [hs]; rfl)) hs, a2 M L H σ _ I fun v H1 s1 r1 => ?_⟩⟩
  cases r1
  exact ⟨n, rfl, hb.1, hb.2, k _ H1 s1 walkd_range⟩
theorem di_range2 {tg : Expr} {nm : Pos} {m n : Int} (ha : DE X E a (.int m)) (hb : DE X E b (.int n)) (hbd : (-(2 ^ 62) ≤ m ∧ m < 2 ^ 62) ∧ (-(2 ^ 62) ≤ n ∧ n < 2 ^ 62)) (hg : Gl X "range") (hm : X.mg "range" = none)
    (hs : starEach [a, b] X.env = [(false, eval a X.env), (false, eval b X.env)] := by rfl) (hs2 : starEach [b] X.env = [(false, eval b X.env)] := by rfl) : DI X E tg (.Call (.Name "range" nm) [a, b] [] pos) (nums m (n - m).toNat) := by
  obtain ⟨ta, a1, a2⟩ := ha
  obtain ⟨tb, b1, b2⟩ := hb
  refine ⟨fun M L H σ Rr I k => ⟨_, pi_range2 hg hm (pa_cons a1 (pa_cons b1 pa_nil (by rw [hs2]; rfl)) (by rw [hs, hs2])) hs hs2, a2 M L H σ _ I fun v H1 s1 r1 => b2 M L H1 σ _ (I.same s1) fun w H2 s2 r2 => ?_⟩⟩
  cases r1
  cases r2
  exact ⟨m, n, rfl, ⟨hbd.1.1, hbd.1.2, hbd.2.1, hbd.2.2⟩, k _ H2 (s1.trans s2) walkd_range⟩
/-- a new pair at each turn -/
theorem walkd_pair {K : PySem.W.Frag} {J : It} {W0 : List Addr} {H0 : Hp} {n : Nat} {G : Hp → Prop} {f g : Nat → Option V} {ps : List PyData} (w : Walk J n G (YPair f g)) (hn : ps.length = n) (hG : ∀ W H, Same (fz W0 H0) (fz W H) → G H)
    (h : ∀ i v w, i < n → f i = some v → g i = some w → ∃ x y, ps[i]? = some (.tuple [x, y]) ∧ R K (fz W0 H0) v x ∧ R K (fz W0 H0) w y) : WalkD K J W0 H0 ps := by
  subst hn
  refine ⟨G, _, w, hG, fun W H i v H' s dm hi y => ?_⟩
  obtain ⟨T, a, b, rfl, hT, rfl, ha, hb⟩ := y
  obtain ⟨x, y, h1, h2, h3⟩ := h i a b hi ha hb
  have sp : Same H (upd H T (.tup [a, b])) := same_new hT
  have nT : T ∉ W := fun z => dm T z hT
  exact ⟨sp, _, h1, .tup (.inl (.inl (by rw [fz_of nT]; exact upd_same))) (.cons (R.same (s.trans (fz_same sp)) _ _ h2) (.cons (R.same (s.trans (fz_same sp)) _ _ h3) .nil))⟩
def enumD (xs : List PyData) : List PyData := (List.range xs.length).zipWith (fun (k : Nat) x => PyData.tuple [.int (k : Int), x]) xs
theorem enumD_len : (enumD xs).length = xs.length := by simp [enumD]
theorem enumD_get {i : Nat} {x : PyData} (h : xs[i]? = some x) : (enumD xs)[i]? = some (.tuple [.int (i : Int), x]) := by
  have hi : i < xs.length := (List.getElem?_eq_some_iff.mp h).1
  have e := (List.getElem?_eq_some_iff.mp h).2
  simp [enumD, List.getElem?_zipWith, hi, e]
theorem di_enum {elts : List Expr} {kk : Nat} {tp nm : Pos} (ha : DE X E a (.list xs)) (hg : Gl X "enumerate") (hm : X.mg "enumerate" = none) (hs : starEach [a] X.env = [(false, eval a X.env)] := by rfl) : DI X E (.Tuple elts kk tp) (.Call (.Name "enumerate" nm) [a] [] pos) (enumD xs) := by
  obtain ⟨ta, a1, a2⟩ := ha
  refine ⟨fun M L H σ Rr I k => ⟨_, pi_enum hg hm (pa_cons a1 pa_nil (by rw [hs]; rfl)) hs, a2 M L H σ _ I fun v H1 s1 r1 => ?_⟩⟩
  cases r1 with
  | lst hs hr =>
    rename_i p vs
    refine ⟨p, vs, rfl, fz_sub.seq hs, k _ H1 s1 (walkd_pair walk_enum (by rw [enumD_len, hr.length]) (fun W H s => fz_sub.seq (s.seq hs)) fun i v w hi e1 e2 => ?_)⟩
    cases e1
    obtain ⟨x, h1, h2⟩ := RA.getV hr e2
    exact ⟨_, x, enumD_get h1, .int _, h2⟩
def zipD (xs ys : List PyData) : List PyData := xs.zipWith (fun x y => PyData.tuple [x, y]) ys
theorem zipD_get {ys : List PyData} {i : Nat} {x y : PyData} (h : xs[i]? = some x) (h2 : ys[i]? = some y) : (zipD xs ys)[i]? = some (.tuple [x, y]) := by simp [zipD, List.getElem?_zipWith, h, h2]
theorem zipD_len {ys : List PyData} : (zipD xs ys).length = min xs.length ys.length := by simp [zipD]
theorem di_zip {ys : List PyData} {elts : List Expr} {kk : Nat} {tp nm : Pos} (ha : DE X E a (.list xs)) (hb : DE X E b (.list ys)) (hg : Gl X "zip") (hm : X.mg "zip" = none) (hs : starEach [a, b] X.env = (false, eval a X.env) :: starEach [b] X.env := by rfl) (hs2 : starEach [b] X.env = (false, eval b X.env) :: starEach [] X.env := by rfl)
    (hpl : ((PySem.backTo pos (PySem.starEach [b] X.env)).any fun x => x.fst) = false := by rfl) : DI X E (.Tuple elts kk tp) (.Call (.Name "zip" nm) [a, b] [] pos) (zipD xs ys) := by
  obtain ⟨ta, a1, a2⟩ := ha
  obtain ⟨tb, b1, b2⟩ := hb
  refine ⟨fun M L H σ Rr I k => ⟨_, pi_zip hg hm (pa_cons a1 (pa_cons b1 pa_nil hs2) hs) hs hpl, a2 M L H σ _ I fun v H1 s1 r1 => b2 M L H1 σ _ (I.same s1) fun w H2 s2 r2 => ?_⟩⟩
  cases R.same (fz_same s2) _ _ r1 with
  | lst hs hr =>
    rename_i p vs
    cases r2 with
    | lst hs2 hr2 =>
      rename_i p2 ws
      refine ⟨p, p2, vs, ws, rfl, fz_sub.seq hs, fz_sub.seq hs2, k _ H2 (s1.trans s2) (walkd_pair (walk_zip rfl) (by rw [zipD_len, hr.length, hr2.length]) (fun W H s => ⟨fz_sub.seq (s.seq hs), fz_sub.seq (s.seq hs2)⟩) fun i v w hi e1 e2 => ?_)⟩
      obtain ⟨x, h1, h2⟩ := RA.getV hr e1
      obtain ⟨y, h3, h4⟩ := RA.getV hr2 e2
      exact ⟨x, y, zipD_get h1 h3, h2, h4⟩

end
/-! ### names that are forgotten -/
inductive Le : List Sl → List Sl → Prop
  | nil : Le [] []
  | same {s : Sl} {E E' : List Sl} : Le E E' → Le (s :: E) (s :: E')
  | drop {s : Sl} {E E' : List Sl} : Le E E' → Le (s :: E) (.no :: E')
theorem Le.refl : ∀ E : List Sl, Le E E
  | [] => .nil
  | s :: E => .same (Le.refl E)
theorem EnvR.le {K : PySem.W.Frag} {M L : List Addr} {H : Hp} {σ : L2.St} {E E' : List Sl} (h : EnvR K M L H σ E) (l : Le E E') : EnvR K M L H σ E' := by
  obtain ⟨⟨F, hs, nF, hL⟩, dom, dj⟩ := h
  have : ∀ {σ E E' F}, Slots K (L ++ M) H σ E F → Le E E' → F.Nodup → ∃ F', Slots K (L ++ M) H σ E' F' ∧ F'.Nodup ∧ ∀ a ∈ F', a ∈ F := by
    intro σ E E' F hs l
    induction l generalizing σ F with
    | nil => intro nF; cases hs; exact ⟨[], .nil, nF, fun a ha => ha⟩
    | same l ih =>
      intro nF
      cases hs with
      | no hs => obtain ⟨F', h1, h2, h3⟩ := ih hs nF; exact ⟨F', .no h1, h2, h3⟩
      | raw hs => obtain ⟨F', h1, h2, h3⟩ := ih hs nF; exact ⟨F', .raw h1, h2, h3⟩
      | fx r hs => obtain ⟨F', h1, h2, h3⟩ := ih hs nF; exact ⟨F', .fx r h1, h2, h3⟩
      | o ho hs =>
        obtain ⟨n1, n2, n3⟩ := List.nodup_append.mp nF
        obtain ⟨F', h1, h2, h3⟩ := ih hs n2
        exact ⟨_, .o ho h1, List.nodup_append.mpr ⟨n1, h2, fun a ha b hb e => n3 a ha b (h3 b hb) e⟩, fun a ha => (List.mem_append.mp ha).elim (fun q => List.mem_append_left _ q) fun q => List.mem_append_right _ (h3 a q)⟩
    | drop l ih =>
      intro nF
      cases hs with
      | no hs => obtain ⟨F', h1, h2, h3⟩ := ih hs nF; exact ⟨F', .no h1, h2, h3⟩
      | raw hs => obtain ⟨F', h1, h2, h3⟩ := ih hs nF; exact ⟨F', .no h1, h2, h3⟩
      | fx r hs => obtain ⟨F', h1, h2, h3⟩ := ih hs nF; exact ⟨F', .no h1, h2, h3⟩
      | o ho hs =>
        obtain ⟨n1, n2, n3⟩ := List.nodup_append.mp nF
        obtain ⟨F', h1, h2, h3⟩ := ih hs n2
        exact ⟨F', .no h1, h2, fun a ha => List.mem_append_right _ (h3 a ha)⟩
  obtain ⟨F', h1, h2, h3⟩ := this hs l nF
  exact ⟨⟨F', h1, h2, fun a ha => hL a (h3 a ha)⟩, dom, dj⟩
theorem ds_le {X : Cx} {W : WX} {sts : List Stmt} {E E' : List Sl} {P : Out → Prop} (l : Le E E') (h : DSs X W sts E' P) : DSs X W sts E P := ⟨fun M L H σ D I k => h.run M L H σ D (I.le l) k⟩
theorem ds_le1 {X : Cx} {W : WX} {st : Stmt} {E E' : List Sl} {P : Out → Prop} (l : Le E E') (h : DS X W st E' P) : DS X W st E P := ⟨fun M L H σ D I k => h.run M L H σ D (I.le l) k⟩
theorem dt_le1 {X : Cx} {e : Expr} {E E' : List Sl} {b : Bool} (l : Le E E') (h : DT X E' e b) : DT X E e b := by
  obtain ⟨t, h1, h2⟩ := h
  exact ⟨t, h1, fun M L H σ Q I k => h2 M L H σ Q (I.le l) k⟩

section
variable {X : Cx} {W : WX} {st : Stmt} {sts rest bod els : List Stmt} {E E' : List Sl} {P P' : Out → Prop} {Q : List Sl → Prop} {e a b c : Expr} {x y z : PyData} {xs : List PyData} {pos : Pos} {t : OT} {p : Bool}
/-! loops -/
structure CxF (X : Cx) (W : WX) : Prop where
  calm : X.calm = true
  pass : PassesOwn (model X.prog X.w) X.A X.env X.xe
  take : Takes X W
theorem ds_for (I : Nat → List Sl → Prop) (N : List Sl → Prop) {tg it : Expr} {f : PyData → List Sl → Option (List Sl)} (C : CxF X W) (J : DI X E tg it xs) {sl : List Nat} (T : TgR X tg f sl) {E0 : List Sl} (hle : Le E E0) (h0 : I 0 E0)
    (turn : ∀ i x E1, xs[i]? = some x → I i E1 → ∃ E2, f x E1 = some E2 ∧ DSs X W bod E2 (lp (I (i + 1)) N P)) (done : ∀ E1, I xs.length E1 → N E1)
    (hf : ∀ v, foldedSetIterable it X.env v = pure v := by intro _; rfl) : DS X W (.For tg it bod [] pos) E (th N P) := by
  obtain ⟨g, g1, g2⟩ := T
  refine ⟨fun M L H σ D EI k => ?_⟩
  have hJ : ∀ J H1, Same H H1 → WalkD X.K J (L ++ M) H1 xs → ∃ Wv : Nat → Nat → L2.St → Hp → Prop, (∃ m, Wv 0 m σ H1) ∧ ∀ i m σ H, Wv i m σ H →
      (J.stop i H ∧ D.nx σ H) ∨ (J.go i H ∧ ∃ Nn : L2.St → Hp → Prop, (∀ σ' H', Nn σ' H' → ∃ m', m' < m ∧ Wv (i + 1) m' σ' H') ∧ ∀ x H', J.yld i H x H' → g x σ H' fun σ2 H2 => tAll X bod { D with nx := Nn, ct := Nn, bk := D.nx } σ2 H2) := fun J H1 s1 w => by
    obtain ⟨G, Y, wk, hG, hY⟩ := w
    refine for_it wk (fun i σ' H' => ∃ L' E1, I i E1 ∧ EnvR X.K M L' H' σ' E1 ∧ Step L H1 L' H') ⟨L, E0, h0, (EI.same s1).le hle, Step.refl L H1⟩ (fun i σ' H' _ ⟨L', E1, _, _, s⟩ => hG _ _ s.fz) ?_ ?_
    · rintro i v σ' H' H2 hi ⟨L', E1, i1, e1, s⟩ y
      obtain ⟨s2, x, hx, r⟩ := hY _ _ i v H2 s.fz e1.dom hi y
      obtain ⟨E2, hf2, body⟩ := turn i x E1 hx i1
      refine g2 M L' H2 σ' v x E1 E2 _ (e1.same s2) r hf2 fun σ2 e2 _ => ?_
      have st : Step L H L' H2 := ((Step.same s1).trans s).trans (Step.same s2)
      have st1 : Step L H1 L' H2 := s.trans (Step.same s2)
      have kk := k.step st
      refine body.run M L' H2 σ2 _ e2 ⟨fun E3 L3 H3 σ3 q t J3 => ⟨L3, E3, q, J3, st1.trans t⟩, fun E3 L3 H3 σ3 q t J3 => kk.nx E3 L3 H3 σ3 q t J3, fun E3 L3 H3 σ3 q t J3 => ⟨L3, E3, q, J3, st1.trans t⟩, kk.rt, kk.ex, kk.exd⟩
    · rintro σ' H' ⟨L', E1, i1, e1, s⟩
      exact k.nx E1 L' H' σ' (done E1 i1) ((Step.same s1).trans s) e1
  obtain ⟨wi, w1, w2⟩ := J.run M L H σ _ EI hJ
  exact ⟨_, ps_for C.pass C.calm w1 g1 pss_all hf, w2⟩
theorem pt_all {c : Expr} : PT X c (fun σ H Q => ∃ tt, PT X c tt ∧ tt σ H Q) := ⟨fun pins s σ H Q I ⟨tt, h, q⟩ => h.run pins s σ H Q I q⟩
theorem ds_while (I : Nat → List Sl → Prop) (N : List Sl → Prop) (C : CxF X W) {m0 : Nat} (h0 : I m0 E)
    (turn : ∀ m E1, I m E1 → ∃ p, DT X E1 c p ∧ (p = true → DSs X W bod E1 (lp (fun E2 => ∃ m', m' < m ∧ I m' E2) N P)) ∧ (p = false → N E1)) : DS X W (.While c bod [] pos) E (th N P) := by
  refine ⟨fun M L H σ D EI k => ⟨_, ps_while C.pass pt_all pss_all, fun m σ' H' => ∃ L' E1, I m E1 ∧ EnvR X.K M L' H' σ' E1 ∧ Step L H L' H', ⟨m0, L, E, h0, EI, Step.refl L H⟩, ?_⟩⟩
  rintro m σ' H' ⟨L', E1, i1, e1, s⟩
  obtain ⟨p, ⟨tt, t1, t2⟩, hT, hF⟩ := turn m E1 i1
  refine ⟨tt, t1, t2 M L' H' σ' _ e1 fun H2 s2 => ?_⟩
  have kk := k.step (s.trans (Step.same s2))
  cases p with
  | true =>
    refine iteT ⟨fun σ3 H3 => ∃ L3 E3 m3, m3 < m ∧ I m3 E3 ∧ EnvR X.K M L3 H3 σ3 E3 ∧ Step L H L3 H3, fun σ3 H3 ⟨L3, E3, m3, a1, a2, a3, a4⟩ => ⟨m3, a1, L3, E3, a2, a3, a4⟩, ?_⟩
    refine (hT rfl).run M L' H2 σ' _ (e1.same s2) ⟨fun E3 L3 H3 σ3 q t J3 => ?_, fun E3 L3 H3 σ3 q t J3 => kk.nx E3 L3 H3 σ3 q t J3, fun E3 L3 H3 σ3 q t J3 => ?_, kk.rt, kk.ex, kk.exd⟩
    · obtain ⟨m3, q1, q2⟩ := q
      exact ⟨L3, E3, m3, q1, q2, J3, (s.trans (Step.same s2)).trans t⟩
    · obtain ⟨m3, q1, q2⟩ := q
      exact ⟨L3, E3, m3, q1, q2, J3, (s.trans (Step.same s2)).trans t⟩
  | false => exact iteF (kk.nx E1 L' H2 σ' (hF rfl) (Step.refl L' H2) (e1.same s2))
end
end D

end

section
set_option Elab.async false
set_option linter.all false
set_option autoImplicit false
set_option maxRecDepth 100000
set_option maxHeartbeats 2000000
namespace D
open PySem L2 PySem.Spec PyProof.Rows

/-! ### a def by its body -/
/-- what a body's end says of the call's -/
def fin (r : Res) : Out → Prop
  | .rt t => r = .ok t ∨ r = .ok (.d t.dat)
  | .nx _ => r = .ok (.d .none)
  | .ex C fs _ => r = .ex C fs
  | _ => False
def entry (n : Nat) (xs : List PyData) : List Sl := xs.map Sl.v ++ List.replicate (n - xs.length) .no
abbrev wF (E : XK) : WX := fun cls d _ H => E cls d H
theorem postOk_fin {K : PySem.W.Frag} {M : List Addr} {H : Hp} {Q : VK} {Ex : XK} {r : Res} (dm : ∀ a ∈ M, H a ≠ none) (h : PostR K M H Q Ex r) : PostOk K M [] H (fin r) { nx := fun _ H' => Q .non H', rt := Q } (wF Ex) := by
  have sm : ∀ {L' : List Addr} {H' : Hp}, Step [] H L' H' → Same H H' := fun s a o e => s.keep a o (by simp) e
  have fr : ∀ {L' : List Addr} {H' : Hp}, Step [] H L' H' → ∀ a ∈ L', H a = none := fun s a ha => (s.new a ha).elim (fun z => by cases z) id
  refine ⟨fun E' L' H' σ' p s I => ?_, fun E' L' H' σ' p s I => p.elim, fun E' L' H' σ' p s I => p.elim, fun t v L' H' F p s d2 hF nF o => ?_, fun C E' L' H' σ' p s I => ?_, fun C fs E' L' H' σ' d gs F p s I hd hdL hdx nF hFr fr2 => ?_⟩
  · have p' : r = .ok (.d .none) := p
    subst p'
    exact h .non H' [] (sm s) List.nodup_nil (fun a ha => by cases ha) (.d .non)
  · have hM : ∀ a ∈ F, a ∉ M := fun a ha z => dm a z (fr s a (hF a ha))
    rcases (show r = .ok t ∨ r = .ok (.d t.dat) from p) with p' | p'
    · subst p'
      exact h v H' F (sm s) nF (fun a ha => fr s a (hF a ha)) (Own.mono (fz_mono fun a o n e => ⟨fun z => n ((List.mem_append.mp z).elim (fun q => List.mem_append_left _ (hF a q)) fun q => List.mem_append_right _ q), e⟩) _ _ _ (fun a ha => ⟨List.mem_append_left _ ha, rfl⟩) o)
    · subst p'
      exact h v H' [] (sm s) List.nodup_nil (fun a ha => by cases ha) (.d (Own.rd _ _ _ o (fun a o n e => ⟨fun z => n (List.mem_append_right _ z), e⟩) fun a ha => ⟨hM a ha, rfl⟩))
  · have p' : r = .ex C none := p
    subst p'
    exact h H' (sm s)
  · have p' : r = .ex C (some fs) := p
    subst p'
    refine h d gs H' F (sm s) hd (fun z => (hFr d z).2.2 rfl) hdx nF (fun a ha => (hFr a ha).1) ?_
    clear h p
    have : ∀ {W W' : List Addr}, (∀ a o, a ∉ W → H' a = some o → a ∉ W' ∧ H' a = some o) → (∀ a, a ∈ F → a ∈ W') → ∀ {gs fs G}, FldR K W H' gs fs G → (∀ a ∈ G, a ∈ F) → FldR K W' H' gs fs G := by
      intro W W' e hw gs fs G r
      induction r with
      | nil => intro _; exact .nil
      | cons r1 _ ih => intro hG; exact .cons (Own.mono (fz_mono e) _ _ _ (fun a ha => ⟨hw a (hG a (List.mem_append_left _ ha)), rfl⟩) r1) (ih fun a ha => hG a (List.mem_append_right _ ha))
    exact this (fun a o n e => ⟨fun z => n ((List.mem_append.mp z).elim (fun q => List.mem_append_left _ q) fun q => List.mem_append_right _ (List.mem_append_right _ q)), e⟩) (fun a ha => List.mem_append_left _ ha) fr2 fun a ha => ha
section
variable {P : Program} {w : World} {K : PySem.W.Frag} {mg : Str → Option Value} {base : Heap}
theorem cxf_of {N : List Str} {qual : Str} {sc : Scope} {f : Addr} {cdv : Value} {A : Around} {outer : List Env} {s : Shared} {H : Hp} {E : XK} : CxF (cxOf (L2.CX P w) P w K mg base N qual sc f cdv A outer s H E) (wF E) :=
  ⟨rfl, passes_of (K := fun e s'' => L2.CX P w outer H s E e s'') rfl, takes_of rfl rfl rfl (E₁ := fun e' s'' => L2.CX P w outer H s E e' s'') rfl⟩
/-- THE RULE for a def: its body, by data -/
theorem fn_ok {x qual : Str} {st : Stmt} {f : Addr} {fd : FuncData} {N ps : List Str} {k n : Nat} {Rf : List PyData → Res → Prop} (F : Fun K x qual st f fd) (S : FnScope N ps (defScope st)) (hn : ps.length = n)
    (hbody : ∀ (cdv : Value) (A : Around) (outer : List Env) (s : Shared) (H : Hp) (E : XK) (X : Cx), X = cxOf (L2.CX P w) P w K mg base N qual (defScope st) f cdv A outer s H E → CxF X (wF E) → Room k X.A → ∀ xs r, xs.length = n → Rf xs r → DSs X (wF E) (defBody st) (entry N.length xs) (fin r)) :
    FnOk P w K mg base (L2.CX P w) (k + 1) f fd ps (spD K n Rf) := by
  refine F.okX S (fun vs H Q E h => ?_) (fun cdv A outer s H vs Q E hr h => ?_)
  · obtain ⟨M, xs, r, h1, h2, h3, h4⟩ := h
    rw [h3.length, h1, hn]
  · obtain ⟨M, xs, r, h1, h2, h3, h4, h5⟩ := h
    refine (hbody cdv A outer s H E _ rfl cxf_of hr xs r h1 h4).run M [] H (start N vs) _ ⟨⟨[], ?_, List.nodup_nil, fun a ha => ha⟩, h2, fun a ha => by cases ha⟩ (postOk_fin h2 h5)
    have q := Slots.start (K := K) (W := M) (H := H) vs xs (N.length - xs.length) h3
    have e : L2.start N vs = vs.map some ++ List.replicate (N.length - xs.length) none := by
      unfold L2.start
      rw [h3.length]
    rw [e]
    exact q
end

/-! ### raise -/
structure OwnExc (K : PySem.W.Frag) (mg : Str → Option Value) (n : Str) (C : Addr) : Prop where
  x : PySem.W.excIn K C [.type "ValueError", .type "Exception", .type "BaseException", .type "object"] "ValueError.__new__" = true
  g : mg n = some (.ref C)
  k : PySem.W.keepIn K (.ref C) = true
  b : PySem.W.subIn K (.ref C) (.type "BaseException") = some true
  t : PySem.W.typeIn K (.ref C) = some (.type "type")
section
variable {X : Cx} {W : WX} {st : Stmt} {rest : List Stmt} {E E' : List Sl} {P P' : Out → Prop} {e a b c : Expr} {es : List Expr} {x y z : PyData} {xs : List PyData} {pos : Pos} {t : OT} {p : Bool} {C : Addr} {n : Str}
theorem ds_raise {m : Str} {j : Nat} {p1 p2 p3 : Pos} (T : CxF X W) (O : OwnExc X.K X.mg n C) (hg : Gl X n) (h : P (.ex C none E)) (hdb : (n == ("__debug__" : Str)) = false := by decide) :
    DSs X W (.Raise (some (.Call (.Name n p1) [.Constant (.str m) j p2] [] p3)) none pos :: rest) E P :=
  ⟨fun M L H σ D I k => ⟨_, pss_cons (L2.ps_raise T.calm T.take (pmk_own PySem.F.excBase_ValueError O.x O.g O.k (raises_own O.b O.t) hg hdb)) pss_all, k.ex C E L H σ h (Step.refl L H) I⟩⟩
/-- a call that raises, as a statement -/
theorem ds_exprX {f : Str} {nm : Pos} {k : Nat} {Rf : List PyData → Res → Prop} (T : CxF X W) (F : FnD X f k Rf) (hg : Gl X f) (ha : DA X E (e :: es) xs) (h : Rf xs (.ex C none)) (hP : P (.ex C none E)) (hk : xs.length = k := by rfl) (hdb : (f == ("__debug__" : Str)) = false := by decide)
    (he : starEach (e :: es) X.env = (false, eval e X.env) :: starEach es X.env := by rfl) {cp : Pos} (hpl : (backTo cp (starEach es X.env)).any (·.1) = false := by rfl) (hs : swapsWith (.Call (.Name f nm) (e :: es) [] cp) none pos.line X.env = pure false := by rfl) : DSs X W (.Expr (.Call (.Name f nm) (e :: es) [] cp) pos :: rest) E P := by
  obtain ⟨g, fd, ps, k, ok, hr, hm, hkp, hb⟩ := F.ex
  obtain ⟨ta, a1, a2⟩ := ha
  refine ⟨fun M L H σ D I kk => ⟨_, pss_cons (ps_expr (L2.pe_callS ok hr hg hm hkp hb (fun σ => passAt T.take σ) a1 hdb he hpl) hs) pss_all, a2 M L H σ _ I fun vs H1 s1 r1 => ?_⟩⟩
  exact ⟨L ++ M, xs, .ex C none, hk, (I.same s1).dom, r1, h, fun H' s2 => kk.ex C E L H' σ hP (Step.same (s1.trans s2)) (I.same (s1.trans s2))⟩

/-! ### try -/
/-- behind an except suite its name is gone -/
def gone (i : Nat) (P : Out → Prop) : Out → Prop
  | .nx E => P (.nx (E.set i .no))
  | .bk E => P (.bk (E.set i .no))
  | .ct E => P (.ct (E.set i .no))
  | .rt t => P (.rt t)
  | .ex _ _ _ => False
theorem EnvR.setNo {K : PySem.W.Frag} {M L : List Addr} {H : Hp} {σ : L2.St} {E : List Sl} {i : Nat} {o : Option V} (h : EnvR K M L H σ E) : EnvR K M L H (σ.set i o) (E.set i .no) := by
  obtain ⟨⟨F, hs, nF, hL⟩, dom, dj⟩ := h
  have : ∀ {σ E F}, Slots K (L ++ M) H σ E F → F.Nodup → ∀ i, ∃ F', Slots K (L ++ M) H (σ.set i o) (E.set i .no) F' ∧ F'.Nodup ∧ ∀ a ∈ F', a ∈ F := by
    intro σ E F h
    induction h with
    | nil => intro nF i; exact ⟨[], .nil, nF, fun a ha => ha⟩
    | no hs ih =>
      intro nF i
      cases i with
      | zero => exact ⟨_, .no hs, nF, fun a ha => ha⟩
      | succ i => obtain ⟨F', h1, h2, h3⟩ := ih nF i; exact ⟨F', .no h1, h2, h3⟩
    | raw hs ih =>
      intro nF i
      cases i with
      | zero => exact ⟨_, .no hs, nF, fun a ha => ha⟩
      | succ i => obtain ⟨F', h1, h2, h3⟩ := ih nF i; exact ⟨F', .raw h1, h2, h3⟩
    | fx r hs ih =>
      intro nF i
      cases i with
      | zero => exact ⟨_, .no hs, nF, fun a ha => ha⟩
      | succ i => obtain ⟨F', h1, h2, h3⟩ := ih nF i; exact ⟨F', .fx r h1, h2, h3⟩
    | o ho hs ih =>
      intro nF i
      obtain ⟨n1, n2, n3⟩ := List.nodup_append.mp nF
      cases i with
      | zero => exact ⟨_, .no hs, n2, fun a ha => List.mem_append_right _ ha⟩
      | succ i =>
        obtain ⟨F', h1, h2, h3⟩ := ih n2 i
        exact ⟨_, .o ho h1, List.nodup_append.mpr ⟨n1, h2, fun a ha b hb e => n3 a ha b (h3 b hb) e⟩, fun a ha => (List.mem_append.mp ha).elim (fun q => List.mem_append_left _ q) fun q => List.mem_append_right _ (h3 a q)⟩
  obtain ⟨F', h1, h2, h3⟩ := this hs nF i
  exact ⟨⟨F', h1, h2, fun a ha => hL a (h3 a ha)⟩, dom, dj⟩
/-- try: body, except c as n: suite. A: what the body may come to, ahead of the clause -/
theorem ds_try {body suite : List Stmt} {b0 : Stmt} {nc nn : Str} {cls : Value} {i : Nat} {np pos' : Pos} {A : Out → Prop} (T : CxF X W) (N : LocN X i nn) (hs : X.stack = X.env :: X.outer) (hf : X.env.frame = some X.env.locals) (hln : X.env.kindOf nn = some .local) (hc : Names X nc cls) (hi : i < E.length)
    (hb : ∀ (W' : WX) (pn : List (Addr × Obj)) (xe : Value → Shared → Prop), CxF (X.tr pn xe) W' → DSs (X.tr pn xe) W' body E A)
    (hA : ∀ o, A o → match o with
      | .ex C fs E1 => fs = none ∧ E1.length = E.length ∧ PySem.W.exmOne X.K (.ref C) cls = some true ∧ ∀ (a : Addr) (oe : Obj) (pn : List (Addr × Obj)), Zc (.ref C) none oe → (∃ vs, oe.data = .fields vs) → DSs (X.suite a ((a, oe) :: pn)) (fun _ _ _ _ => False) (b0 :: suite) (E1.set i (.raw (.ref a))) (gone i P)
      | o => P o) :
    DS X W (.Try body [.ExceptHandler (some (.Name nc np)) (some nn) (b0 :: suite) pos'] [] [] pos) E P := by
  refine ⟨fun M L H σ D I k => ⟨_, L2.ps_try_as (i := i) (tb := fun W' D σ H => ∀ pn xe, CxF (X.tr pn xe) W' → tAll (X.tr pn xe) body D σ H) (ts := fun a cls d D σ H => ∀ (oe : Obj) (pn : List (Addr × Obj)), Zc cls d oe → (∃ vs, oe.data = .fields vs) → tAll (X.suite a ((a, oe) :: pn)) (b0 :: suite) D σ H)
    hs hf N.nd N.ix hln hc T.take (fun W' pn xe tk pass => ⟨fun pins s σ H D I h => ?_⟩) (fun a oe cls d pn hz hv => ⟨fun pins s σ H D I h => ?_⟩), ?_⟩⟩
  · obtain ⟨t, h1, h2⟩ := h pn xe ⟨T.calm, pass, tk⟩
    exact h1.run pins s σ H D I h2
  · obtain ⟨t, h1, h2⟩ := h oe pn hz hv
    exact h1.run pins s σ H D I h2
  · intro pn xe T'
    refine (hb _ pn xe T').run M L H σ D I ⟨fun E' L' H' σ' q s J => k.nx E' L' H' σ' (hA _ q) s J, fun E' L' H' σ' q s J => k.bk E' L' H' σ' (hA _ q) s J, fun E' L' H' σ' q s J => k.ct E' L' H' σ' (hA _ q) s J, fun t v L' H' F q s d hF nF o => k.rt t v L' H' F (hA _ q) s d hF nF o, fun C E' L' H' σ' q s J => ?_, fun C fs E' L' H' σ' d gs F q s J => absurd (hA _ q).1 (by simp)⟩
    obtain ⟨_, hlen, hx, hsu⟩ := hA _ q
    refine ⟨true, hx, fun _ a na oe pn hz hv => ?_, fun z => by cases z⟩
    have kk := k.step s
    refine (hsu a oe pn hz hv).run M L' H' (σ'.set i (some (.ref a))) _ (J.setRaw (by rw [hlen]; exact hi)) ⟨fun E2 L2 H2 σ2 q2 s2 J2 => kk.nx _ L2 H2 _ q2 s2 J2.setNo, fun E2 L2 H2 σ2 q2 s2 J2 => kk.bk _ L2 H2 _ q2 s2 J2.setNo, fun E2 L2 H2 σ2 q2 s2 J2 => kk.ct _ L2 H2 _ q2 s2 J2.setNo, fun t v L2 H2 F q2 s2 d hF nF o => kk.rt t v L2 H2 F q2 s2 d hF nF o, fun C2 E2 L2 H2 σ2 q2 => q2.elim, fun C2 fs E2 L2 H2 σ2 d gs F q2 => q2.elim⟩
end
end D

end

section
set_option Elab.async false
set_option linter.all false
set_option autoImplicit false
set_option maxRecDepth 100000
set_option maxHeartbeats 2000000
namespace D
open PySem L2 PySem.Spec PyProof.Rows

/-! ### isinstance of a caught exception -/
/-- a name that holds a class -/
structure ClsN (X : Cx) (n : Str) (v : V) (u : Value) : Prop where
  pe : ∀ pos, PE X (.Name n pos) (tC v)
  is : ClsV v u
theorem clsn_ty {X : Cx} {n : Str} {T : String} (hg : Gl X n) (hm : X.mg n = none) (hT : bootBuiltins n = some (.type T) := by decide +kernel) (hn : n ≠ "__name__" := by decide) (hd : (n == ("__debug__" : Str)) = false := by decide) : ClsN X n (.ty T) (.type T) :=
  ⟨fun _ => pe_bltn hg hm hT rfl hn hd, .ty T⟩
theorem clsn_own {X : Cx} {n : Str} {C : Addr} (hg : Gl X n) (hm : X.mg n = some (.ref C)) (hd : (n == ("__debug__" : Str)) = false := by decide) : ClsN X n (.ref C) (.ref C) :=
  ⟨fun _ => pe_glob hg hm rfl hd, .own C⟩
def rIsET (K : PySem.W.Frag) (D a : Addr) : List V → Hp → VK → Prop := fun xs H Q => ∃ (tp : Addr) (cs : List V) (us : List Value) (b : Bool), xs = [.ref a, .ref tp] ∧ H tp = some (.tup cs) ∧ Paired ClsV cs us ∧ PySem.W.kitAny K (.ref D) us = some b ∧ Q (.bl b) H
theorem call_isET {X : Cx} {a D : Addr} {oe : Obj} {pn : List (Addr × Obj)} (C : ExcC X.K D) (hz : Zc (.ref D) none oe) (hf : ∃ vs, oe.data = .fields vs) : CallR (X.suite a ((a, oe) :: pn)) (.builtin "isinstance") (rIsET X.K D a) := by
  intro pins s σ H xs us Q I r h
  obtain ⟨tp, cs, ws, b, rfl, hT, k, e, q⟩ := h
  cases r with
  | cons rx rr =>
    cases rr with
    | cons rt rr =>
      cases rr
      cases rx
      cases rt
      obtain ⟨hget, _⟩ := I.pin (a, oe) (List.mem_append.mpr (.inl List.mem_cons_self))
      obtain ⟨vs, hv⟩ := hf
      have J : PySem.W.InstAt s.heap a oe D none := by
        obtain ⟨oc, od, oda, osl⟩ := oe
        obtain ⟨h1, h2⟩ := hz
        dsimp only at h1 h2 hv
        subst h1 h2 hv
        exact ⟨hget, rfl, rfl, trivial⟩
      obtain ⟨_, its, rv, o, h1, h2, n, h3⟩ := (show ObjOk X.prog X.w H s.heap tp (.tup cs) from I.hok tp _ hT)
      have e3 := ClsV.all k rv
      subst e3
      obtain ⟨oc, od, dt, sl⟩ := o
      simp only at h2 h3
      subst h2 h3
      exact PySem.W.kia_tup (PySem.W.handS_kitx_exc C.hg C.hk C.hs C.hd C.ha C.hn C.ht C.hm) I.kIn J h1 e (fun z => nomatch z) fun tk => ⟨.bl b, H, I.kept (t' := tk) fun _ _ z => z, rfl, q⟩
section
variable {X : Cx} {W : WX} {st : Stmt} {sts rest bod : List Stmt} {E E' : List Sl} {P P' : Out → Prop} {e a b c : Expr} {es : List Expr} {x y z : PyData} {xs : List PyData} {pos : Pos} {t : OT} {p : Bool} {n : Str}
theorem de_isE {ad Dc : Addr} {oe : Obj} {pn : List (Addr × Obj)} {i : Nat} {v : V} {u : Value} {nm pc pe : Pos} {ne : Str} (C : ExcC X.K Dc) (hz : Zc (.ref Dc) none oe) (hf : ∃ vs, oe.data = .fields vs) (hv : ∀ pos, PE (X.suite ad ((ad, oe) :: pn)) (.Name ne pos) (tVar i))
    (hE : E[i]? = some (.raw (.ref ad))) (N : ClsN (X.suite ad ((ad, oe) :: pn)) n v u) (hg : Gl (X.suite ad ((ad, oe) :: pn)) "isinstance") (hm : X.mg "isinstance" = none) (hk : PySem.W.kitOne X.K (.ref Dc) u = some p)
    (hs1 : starEach [.Name ne pe, .Name n pc] X.env = (false, eval (.Name ne pe) X.env) :: starEach [.Name n pc] X.env := by rfl) (hs2 : starEach [.Name n pc] X.env = (false, eval (.Name n pc) X.env) :: starEach [] X.env := by rfl)
    (hpl : (backTo pos (starEach [.Name n pc] X.env)).any (·.1) = false := by rfl) :
    DE (X.suite ad ((ad, oe) :: pn)) E (.Call (.Name "isinstance" nm) [.Name ne pe, .Name n pc] [] pos) (.bool p) := by
  refine ⟨_, pe_callB (call_isE C hz hf) hg hm (by decide +kernel) (pa_cons (hv _) (pa_cons (N.pe _) pa_nil hs2) hs1) (he := hs1) (hpl := hpl), fun M L H σ Q I k => ?_⟩
  obtain ⟨⟨F, hsl, _⟩, _, _⟩ := id I
  exact ⟨.ref ad, hsl.getRaw hE, v, u, p, rfl, fun w r => N.is.eq r, hk, k _ H (Same.refl H) (.bl p)⟩
/-- names of classes, side by side -/
inductive ClsNs (X : Cx) : List Expr → List V → List Value → Prop where
  | nil : ClsNs X [] [] []
  | cons {n : Str} {pos : Pos} {v : V} {u : Value} {es : List Expr} {vs : List V} {us : List Value} : ClsN X n v u → ClsNs X es vs us → (starEach (.Name n pos :: es) X.env = (false, eval (.Name n pos) X.env) :: starEach es X.env) → ClsNs X (.Name n pos :: es) (v :: vs) (u :: us)
def tCs : List V → TA
  | [] => tNil
  | v :: vs => tCons (tC v) (tCs vs)
theorem ClsNs.pa {X : Cx} {es : List Expr} {vs : List V} {us : List Value} (h : ClsNs X es vs us) : PA X es (tCs vs) := by
  induction h with
  | nil => exact pa_nil
  | cons n _ hs ih => exact pa_cons (n.pe _) ih hs
theorem tCs_ok : ∀ {vs : List V} {σ : L2.St} {H : Hp} {Q : List V → Hp → Prop}, Q vs H → tCs vs σ H Q
  | [], _, _, _, h => h
  | v :: vs, σ, H, Q, h => tCs_ok (vs := vs) (σ := σ) (H := H) (Q := fun xs H2 => Q (v :: xs) H2) h
theorem ClsNs.paired {X : Cx} {es : List Expr} {vs : List V} {us : List Value} (h : ClsNs X es vs us) : Paired ClsV vs us := by
  induction h with
  | nil => exact .nil
  | cons n _ _ ih => exact .cons n.is ih
theorem de_isET {ad Dc : Addr} {oe : Obj} {pn : List (Addr × Obj)} {i : Nat} {vs : List V} {us : List Value} {nm pt pe : Pos} {kk : Nat} {ne : Str} (C : ExcC X.K Dc) (hz : Zc (.ref Dc) none oe) (hf : ∃ vs, oe.data = .fields vs) (hv : ∀ pos, PE (X.suite ad ((ad, oe) :: pn)) (.Name ne pos) (tVar i))
    (hE : E[i]? = some (.raw (.ref ad))) (N : ClsNs (X.suite ad ((ad, oe) :: pn)) es vs us) (hl : vs.length ≤ sizeLine) (hg : Gl (X.suite ad ((ad, oe) :: pn)) "isinstance") (hm : X.mg "isinstance" = none) (hk : PySem.W.kitAny X.K (.ref Dc) us = some p)
    (hs1 : starEach [.Name ne pe, .Tuple es kk pt] X.env = (false, eval (.Name ne pe) X.env) :: starEach [.Tuple es kk pt] X.env := by rfl) (hs2 : starEach [.Tuple es kk pt] X.env = (false, eval (.Tuple es kk pt) X.env) :: starEach [] X.env := by rfl)
    (hpl : (backTo pos (starEach [.Tuple es kk pt] X.env)).any (·.1) = false := by rfl) :
    DE (X.suite ad ((ad, oe) :: pn)) E (.Call (.Name "isinstance" nm) [.Name ne pe, .Tuple es kk pt] [] pos) (.bool p) := by
  refine ⟨_, pe_callB (call_isET C hz hf) hg hm (by decide +kernel) (pa_cons (hv _) (pa_cons (pe_tup N.pa) pa_nil hs2) hs1) (he := hs1) (hpl := hpl), fun M L H σ Q I k => ?_⟩
  obtain ⟨⟨F, hsl, _⟩, _, _⟩ := id I
  refine ⟨.ref ad, hsl.getRaw hE, tCs_ok ⟨hl, fun q hq => ?_⟩⟩
  exact ⟨q, vs, us, p, rfl, upd_same, N.paired, hk, k _ _ (same_new hq) (.bl p)⟩

/-! ### lists that change -/
theorem Slots.mut {K : PySem.W.Frag} {W : List Addr} {H : Hp} {σ : L2.St} {E : List Sl} {F : List Addr} (h : Slots K W H σ E F) : F.Nodup → ∀ (i : Nat) (ts : List OT), E[i]? = some (.o (.l ts)) →
    ∃ p vs G, σ[i]? = some (some (.ref p)) ∧ H p = some (.lst vs) ∧ Owns K W H vs ts G ∧ p ∈ W ∧ G.Nodup ∧ p ∈ F ∧
      ∀ vs' ts' G', Owns K W H vs' ts' G' → G'.Nodup → (∀ a ∈ G', a ∈ G) → ∃ F', Slots K W (upd H p (.lst vs')) σ (E.set i (.o (.l ts'))) F' ∧ F'.Nodup ∧ ∀ a ∈ F', a ∈ F := by
  induction h with
  | nil => intro _ i ts e; simp at e
  | no hs ih =>
    intro nF i ts e
    cases i with
    | zero => simp at e
    | succ i =>
      obtain ⟨p, vs, G, h1, h2, h3, h4, h5, h6, h7⟩ := ih nF i ts (by simpa using e)
      refine ⟨p, vs, G, h1, h2, h3, h4, h5, h6, fun vs' ts' G' o n g => ?_⟩
      obtain ⟨F', k1, k2, k3⟩ := h7 vs' ts' G' o n g
      exact ⟨F', .no k1, k2, k3⟩
  | raw hs ih =>
    intro nF i ts e
    cases i with
    | zero => simp at e
    | succ i =>
      obtain ⟨p, vs, G, h1, h2, h3, h4, h5, h6, h7⟩ := ih nF i ts (by simpa using e)
      refine ⟨p, vs, G, h1, h2, h3, h4, h5, h6, fun vs' ts' G' o n g => ?_⟩
      obtain ⟨F', k1, k2, k3⟩ := h7 vs' ts' G' o n g
      exact ⟨F', .raw k1, k2, k3⟩
  | fx r hs ih =>
    intro nF i ts e
    cases i with
    | zero => simp at e
    | succ i =>
      obtain ⟨p, vs, G, h1, h2, h3, h4, h5, h6, h7⟩ := ih nF i ts (by simpa using e)
      refine ⟨p, vs, G, h1, h2, h3, h4, h5, h6, fun vs' ts' G' o n g => ?_⟩
      obtain ⟨F', k1, k2, k3⟩ := h7 vs' ts' G' o n g
      exact ⟨F', .fx (by rw [fz_upd h4]; exact r) k1, k2, k3⟩
  | @o v1 t1 G1 σ1 E1 F1 ho hs ih =>
    intro nF i ts e
    obtain ⟨n1, n2, n3⟩ := List.nodup_append.mp nF
    cases i with
    | zero =>
      cases Option.some.inj e
      cases ho with
      | @l p vs _ G hp hl hos =>
        obtain ⟨m1, m2⟩ := List.nodup_cons.mp n1
        refine ⟨p, vs, G, rfl, hl, hos, hp, m2, List.mem_append_left _ List.mem_cons_self, fun vs' ts' G' o n g => ?_⟩
        have keep : ∀ a, a ≠ p → upd H p (.lst vs') a = H a := fun a q => upd_ne q
        have pF : ∀ a ∈ F1, a ≠ p := fun a ha q => n3 p List.mem_cons_self a ha q.symm
        refine ⟨_, .o (.l hp upd_same (Owns.mono (by rw [fz_upd hp]; exact Same.refl _) _ _ _ (fun a ha => ⟨(Owns.sub _ _ _ o a ha).1, keep a fun q => m1 (q ▸ g a ha)⟩) o)) (hs.mono (by rw [fz_upd hp]; exact Same.refl _) fun a ha => ⟨(hs.sub a ha).1, keep a (pF a ha)⟩), ?_, ?_⟩
        · refine List.nodup_append.mpr ⟨List.nodup_cons.mpr ⟨fun z => m1 (g p z), n⟩, n2, fun a ha b hb q => ?_⟩
          rcases List.mem_cons.mp ha with z | z
          · exact pF b hb (q.symm.trans z)
          · exact n3 a (List.mem_cons_of_mem _ (g a z)) b hb q
        · intro a ha
          rcases List.mem_append.mp ha with z | z
          · rcases List.mem_cons.mp z with z | z
            · exact List.mem_append_left _ (z ▸ List.mem_cons_self)
            · exact List.mem_append_left _ (List.mem_cons_of_mem _ (g a z))
          · exact List.mem_append_right _ z
    | succ i =>
      obtain ⟨p, vs, G, h1, h2, h3, h4, h5, h6, h7⟩ := ih n2 i ts (by simpa using e)
      refine ⟨p, vs, G, h1, h2, h3, h4, h5, List.mem_append_right _ h6, fun vs' ts' G' o n g => ?_⟩
      obtain ⟨F', k1, k2, k3⟩ := h7 vs' ts' G' o n g
      have pG : ∀ a ∈ G1, a ≠ p := fun a ha q => n3 a ha p h6 q
      refine ⟨_, .o (Own.mono (by rw [fz_upd h4]; exact Same.refl _) _ _ _ (fun a ha => ⟨(Own.sub _ _ _ ho a ha).1, upd_ne (pG a ha)⟩) ho) k1, ?_, ?_⟩
      · exact List.nodup_append.mpr ⟨n1, k2, fun a ha b hb q => n3 a ha b (k3 b hb) q⟩
      · intro a ha
        exact (List.mem_append.mp ha).elim (fun z => List.mem_append_left _ z) fun z => List.mem_append_right _ (k3 a z)
/-- an own list in a name, changed in place -/
theorem EnvR.mut {K : PySem.W.Frag} {M L : List Addr} {H : Hp} {σ : L2.St} {E : List Sl} {i : Nat} {ts : List OT} (h : EnvR K M L H σ E) (e : E[i]? = some (.o (.l ts))) :
    ∃ p vs G, σ[i]? = some (some (.ref p)) ∧ H p = some (.lst vs) ∧ Owns K (L ++ M) H vs ts G ∧ G.Nodup ∧ p ∈ L ∧
      ∀ vs' ts' G', Owns K (L ++ M) H vs' ts' G' → G'.Nodup → (∀ a ∈ G', a ∈ G) → EnvR K M L (upd H p (.lst vs')) σ (E.set i (.o (.l ts'))) ∧ Step L H L (upd H p (.lst vs')) := by
  obtain ⟨⟨F, hs, nF, hL⟩, dom, dj⟩ := h
  obtain ⟨p, vs, G, h1, h2, h3, h4, h5, h6, h7⟩ := hs.mut nF i ts e
  refine ⟨p, vs, G, h1, h2, h3, h5, hL p h6, fun vs' ts' G' o n g => ?_⟩
  obtain ⟨F', k1, k2, k3⟩ := h7 vs' ts' G' o n g
  have ne : ∀ a, H a ≠ none → upd H p (.lst vs') a ≠ none := fun a q z => by
    by_cases m : a = p
    · rw [m, upd_same] at z; cases z
    · rw [upd_ne m] at z; exact q z
  exact ⟨⟨⟨F', k1, k2, fun a ha => hL a (k3 a ha)⟩, fun a ha => ne a (dom a ha), dj⟩, ⟨fun a o m q => by rw [upd_ne (fun z : a = p => m (by rw [z]; exact hL p h6))]; exact q, fun a ha => .inl ha, ne⟩⟩
theorem Owns.append {K : PySem.W.Frag} {W : List Addr} {H : Hp} : ∀ {ts us : List OT} {vs ws : List V} {F G : List Addr}, Owns K W H vs ts F → Owns K W H ws us G → Owns K W H (vs ++ ws) (ts ++ us) (F ++ G)
  | [], _, _, _, _, _, h, g => by cases h; exact g
  | t :: ts, us, _, ws, _, G, h, g => by
    cases h with
    | @cons v t F1 vs ts G1 h1 h2 =>
      rw [List.append_assoc]
      exact .cons h1 (Owns.append h2 g)
theorem Own.same {K : PySem.W.Frag} {W : List Addr} {H H' : Hp} {v : V} {t : OT} {F : List Addr} (s : Same H H') (h : Own K W H v t F) : Own K W H' v t F := Own.mono (fz_same s) _ _ _ (fun a ha => by
  obtain ⟨h1, vs, h2⟩ := Own.sub _ _ _ h a ha
  exact ⟨h1, eq_same s h2⟩) h
theorem Owns.same {K : PySem.W.Frag} {W : List Addr} {H H' : Hp} {vs : List V} {ts : List OT} {F : List Addr} (s : Same H H') (h : Owns K W H vs ts F) : Owns K W H' vs ts F := Owns.mono (fz_same s) _ _ _ (fun a ha => by
  obtain ⟨h1, vs, h2⟩ := Owns.sub _ _ _ h a ha
  exact ⟨h1, eq_same s h2⟩) h
/-- xs.append(e) -/
theorem ds_append {i : Nat} {ts : List OT} {nx : Str} {ap cp np : Pos} (hv : ∀ pos, PE X (.Name nx pos) (tVar i)) (he : DE X E e x) (g : E[i]? = some (.o (.l ts))) (hl : ts.length < sizeLine) (hE : E.set i (.o (.l (ts ++ [.d x]))) = E' := by rfl)
    (hbase : attributeBase (.Name nx np) "append" X.env (eval (.Name nx np) X.env) = eval (.Name nx np) X.env := by rfl)
    (hfew : ((backTo cp (starEach [e] X.env)).all (fun x => !x.1) && (backToKw cp (keywordEach [] X.env)).all (fun x => x.1.isSome) && decide ([e].length + ([] : List Keyword).length + (if ([] : List Keyword).isEmpty then 0 else 1) < 30)) = true := by rfl)
    (hline : (ap.endLine == cp.line) = true := by rfl) (hs : starEach [e] X.env = (false, eval e X.env) :: starEach [] X.env := by rfl) (hplain : (backTo cp (starEach [] X.env)).any (·.1) = false := by rfl)
    (hsw : swapsWith (.Call (.Attribute (.Name nx np) "append" ap) [e] [] cp) none pos.line X.env = pure false := by rfl) :
    DS X W (.Expr (.Call (.Attribute (.Name nx np) "append" ap) [e] [] cp) pos) E (th (· = E') P) := by
  obtain ⟨te, e1, e2⟩ := he
  refine ⟨fun M L H σ D I k => ⟨_, ps_expr (pe_bm PySem.F.plainAttrs_list PySem.F.slot_list_append PySem.F.type_list_append mt_append (hv _) (pa_cons e1 pa_nil hs) hbase hfew hline hs hplain) hsw, ?_⟩⟩
  obtain ⟨p, vs, G, h1, h2, h3, _⟩ := I.mut g
  refine ⟨.ref p, h1, .inl ⟨rfl, vs, .inl (.inl h2)⟩, e2 M L H σ _ I fun v H1 s1 r1 => ?_⟩
  have I1 := I.same s1
  obtain ⟨p', vs', G', h1', h2', h3', h4', h5', h6'⟩ := I1.mut g
  have ep : p = p' := by
    have z := h1.symm.trans h1'
    injection z with z
    injection z with z
    injection z
  subst ep
  have h2'' := s1 p _ h2
  rw [h2'] at h2''
  cases h2''
  obtain ⟨q1, q2⟩ := h6' (vs ++ [v]) (ts ++ [.d x]) (G' ++ ([] ++ [])) (h3'.append (.cons (.d r1) .nil)) (by simpa using h4') (fun a ha => by simpa using ha)
  exact ⟨p, vs, v, rfl, rfl, h2', by rw [h3'.length]; exact hl, k.nx E' L _ σ rfl ((Step.same s1).trans q2) (hE ▸ q1)⟩
end
end D

end

section
set_option Elab.async false
set_option linter.all false
set_option autoImplicit false
set_option maxRecDepth 100000
set_option maxHeartbeats 2000000
namespace D
open PySem L2 PySem.Spec PyProof.Rows

/-! ### how typed things are written as data -/
abbrev eP {α β : Type} (f : α → PyData) (g : β → PyData) (p : α × β) : PyData := .tuple [f p.1, g p.2]
abbrev eL {α : Type} (f : α → PyData) (xs : List α) : PyData := .list (xs.map f)
abbrev eO {α : Type} (f : α → PyData) : Option α → PyData
  | none => .none
  | some x => f x
abbrev eU : Unit → PyData := fun _ => .none
/-- a list that is owned -/
abbrev oL {α : Type} (f : α → PyData) (xs : List α) : OT := .l ((xs.map f).map .d)
structure T3 (α β γ : Type) where
  a : α
  b : β
  c : γ
structure T4 (α β γ δ : Type) where
  a : α
  b : β
  c : γ
  d : δ
structure T5 (α β γ δ ε : Type) where
  a : α
  b : β
  c : γ
  d : δ
  e : ε
abbrev eT3 {α β γ : Type} (f : α → PyData) (g : β → PyData) (h : γ → PyData) (p : T3 α β γ) : PyData := .tuple [f p.a, g p.b, h p.c]
abbrev eT4 {α β γ δ : Type} (f : α → PyData) (g : β → PyData) (h : γ → PyData) (i : δ → PyData) (p : T4 α β γ δ) : PyData := .tuple [f p.a, g p.b, h p.c, i p.d]
abbrev eT5 {α β γ δ ε : Type} (f : α → PyData) (g : β → PyData) (h : γ → PyData) (i : δ → PyData) (j : ε → PyData) (p : T5 α β γ δ ε) : PyData := .tuple [f p.a, g p.b, h p.c, i p.d, j p.e]
instance {α β γ : Type} [Inhabited α] [Inhabited β] [Inhabited γ] : Inhabited (T3 α β γ) := ⟨⟨default, default, default⟩⟩
instance {α β γ δ : Type} [Inhabited α] [Inhabited β] [Inhabited γ] [Inhabited δ] : Inhabited (T4 α β γ δ) := ⟨⟨default, default, default, default⟩⟩
instance {α β γ δ ε : Type} [Inhabited α] [Inhabited β] [Inhabited γ] [Inhabited δ] [Inhabited ε] : Inhabited (T5 α β γ δ ε) := ⟨⟨default, default, default, default, default⟩⟩
instance : Inhabited PyData := ⟨.none⟩
theorem dat_oL {α : Type} (f : α → PyData) (xs : List α) : (oL f xs).dat = eL f xs := by
  show PyData.list (dats ((xs.map f).map .d)) = _
  rw [dats_d]
/-- xs[i] -/
def gx {α : Type} [Inhabited α] (xs : List α) (i : Int) : α := (atI xs i).getD default
/-- i is a place in n -/
def inR (n : Nat) (i : Int) : Prop := -(n : Int) ≤ i ∧ i < n
theorem at_gx {α : Type} [Inhabited α] {xs : List α} {i : Int} (h : inR xs.length i) : atI xs i = some (gx xs i) := by
  unfold gx atI ixN
  obtain ⟨h1, h2⟩ := h
  by_cases h0 : 0 ≤ i
  · rw [if_pos h0, if_pos h2]
    have hl : i.toNat < xs.length := by omega
    show xs[i.toNat]? = some (xs[i.toNat]?.getD default)
    rw [List.getElem?_eq_getElem hl]
    rfl
  · rw [if_neg h0, if_pos h1]
    have hl : (i + xs.length).toNat < xs.length := by omega
    show xs[(i + xs.length).toNat]? = some (xs[(i + xs.length).toNat]?.getD default)
    rw [List.getElem?_eq_getElem hl]
    rfl
theorem gx_nat {α : Type} [Inhabited α] {xs : List α} {i : Nat} (h : i < xs.length) : gx xs (i : Int) = xs[i] := by
  unfold gx
  rw [atI_nat (List.getElem?_eq_getElem h)]
  rfl
theorem gx_eq {α : Type} [Inhabited α] {xs : List α} {i : Int} {v : α} (h0 : 0 ≤ i) (h : xs[i.toNat]? = some v) : gx xs i = v := by
  unfold gx
  rw [at_lt h0 h]
  rfl
theorem cutG_map {α β : Type} (f : α → β) (xs : List α) (lo hi : Option Int) : cutG (xs.map f) lo hi = (cutG xs lo hi).map f := by
  unfold cutG
  rw [List.length_map, List.map_take, List.map_drop]
/-- lo, lo + 1, .. -/
def rng (lo : Int) (n : Nat) : List Int := (List.range n).map fun (k : Nat) => lo + (k : Int)
theorem rng_len {lo : Int} {n : Nat} : (rng lo n).length = n := by simp [rng]
theorem nums_rng {lo : Int} {n : Nat} : nums lo n = (rng lo n).map .int := by simp [nums, rng]
theorem rng_get {lo : Int} {n i : Nat} {a : Int} (h : (rng lo n)[i]? = some a) : a = lo + (i : Int) ∧ i < n := by
  have hi : i < n := by
    have := (List.getElem?_eq_some_iff.mp h).1
    rwa [rng_len] at this
  refine ⟨?_, hi⟩
  unfold rng at h
  rw [List.getElem?_map, List.getElem?_range hi] at h
  exact (Option.some.inj h).symm
def enumL {α : Type} (xs : List α) : List (Int × α) := (rng 0 xs.length).zip xs
theorem zipD_map {α β : Type} (f : α → PyData) (g : β → PyData) (xs : List α) (ys : List β) : zipD (xs.map f) (ys.map g) = (xs.zip ys).map (eP f g) := by
  unfold zipD
  induction xs generalizing ys with
  | nil => simp
  | cons x xs ih =>
    cases ys with
    | nil => simp
    | cons y ys => simp [ih]
theorem enumD_map {α : Type} (f : α → PyData) (xs : List α) : enumD (xs.map f) = (enumL xs).map (eP .int f) := by
  unfold enumL
  rw [← zipD_map]
  unfold enumD zipD rng
  rw [List.length_map, List.map_map, List.zipWith_map_left]
  congr 1
  funext k x
  simp
section
variable {X : Cx} {W : WX} {st : Stmt} {sts rest bod : List Stmt} {E E' : List Sl} {P P' : Out → Prop} {e a b c : Expr} {es : List Expr} {x y z : PyData} {pos : Pos} {t : OT} {p : Bool} {α β : Type} {f : α → PyData} {g : β → PyData} {xs : List α} {i j : Int}
theorem de_ixL [Inhabited α] (ha : DE X E a (eL f xs)) (hb : DE X E b (.int i)) (h : inR xs.length i) (hs : PlainIx b := by exact fun _ _ => rfl) : DE X E (.Subscript a b pos) (f (gx xs i)) := de_ix ha hb (at_map (at_gx h)) hs
theorem de_lenL {nm : Pos} (ha : DE X E a (eL f xs)) (hg : Gl X "len") (hm : X.mg "len" = none) (hs : starEach [a] X.env = (false, eval a X.env) :: starEach [] X.env := by rfl) : DE X E (.Call (.Name "len" nm) [a] [] pos) (.int (xs.length : Int)) := (de_lenD ha hg hm hs).cast (by rw [List.length_map])
theorem dn_cutL {lo hi : Option Expr} {ol oh : Option Int} {p2 : Pos} (ha : DE X E a (eL f xs)) (hl : DO X E lo ol) (hh : DO X E hi oh) : DN X E (.Subscript a (.Slice lo hi none p2) pos) (oL f (cutG xs ol oh)) := (dn_cut ha hl hh).cast (by rw [cutG_map])
theorem dn_listL {nm : Pos} (ha : DE X E a (eL f xs)) (hg : Gl X "list") (hm : X.mg "list" = none) (hs : starEach [a] X.env = (false, eval a X.env) :: starEach [] X.env := by rfl) : DN X E (.Call (.Name "list" nm) [a] [] pos) (oL f xs) := dn_list ha hg hm hs
theorem dn_catL {ys : List α} (ha : DE X E a (eL f xs)) (hb : DE X E b (eL f ys)) (hl : xs.length + ys.length ≤ sizeLine) : DN X E (.BinOp a .Add b pos) (oL f (xs ++ ys)) := (dn_cat ha hb (by simpa using hl)).cast (by simp)
theorem dn_repL {v : α} {p2 : Pos} (ha : DE X E a (f v)) (hb : DE X E b (.int i)) (h0 : 0 ≤ i) (h : i ≤ 1000000) (hs : starEach [a] X.env = (false, eval a X.env) :: starEach [] X.env := by rfl) : DN X E (.BinOp (.List [a] p2) .Mult b pos) (oL f (List.replicate i.toNat v)) := (dn_rep ha hb h0 h hs).cast (by simp)
theorem DN.toL (h : DN X E e (oL f xs)) : DE X E e (eL f xs) := h.toE.cast (dat_oL f xs)
theorem di_range1L {tg : Expr} {nm : Pos} {n : Int} (ha : DE X E a (.int n)) (hb : -(2 ^ 62) ≤ n ∧ n < 2 ^ 62) (hg : Gl X "range") (hm : X.mg "range" = none) (hs : starEach [a] X.env = [(false, eval a X.env)] := by rfl) : DI X E tg (.Call (.Name "range" nm) [a] [] pos) ((rng 0 n.toNat).map .int) := nums_rng ▸ di_range1 ha hb hg hm hs
theorem di_range2L {tg : Expr} {nm : Pos} {m n : Int} (ha : DE X E a (.int m)) (hb : DE X E b (.int n)) (hbd : (-(2 ^ 62) ≤ m ∧ m < 2 ^ 62) ∧ (-(2 ^ 62) ≤ n ∧ n < 2 ^ 62)) (hg : Gl X "range") (hm : X.mg "range" = none)
    (hs : starEach [a, b] X.env = [(false, eval a X.env), (false, eval b X.env)] := by rfl) (hs2 : starEach [b] X.env = [(false, eval b X.env)] := by rfl) : DI X E tg (.Call (.Name "range" nm) [a, b] [] pos) ((rng m (n - m).toNat).map .int) := nums_rng ▸ di_range2 ha hb hbd hg hm hs hs2
theorem di_zipL {ys : List β} {elts : List Expr} {kk : Nat} {tp nm : Pos} (ha : DE X E a (eL f xs)) (hb : DE X E b (eL g ys)) (hg : Gl X "zip") (hm : X.mg "zip" = none) (hs : starEach [a, b] X.env = (false, eval a X.env) :: starEach [b] X.env := by rfl) (hs2 : starEach [b] X.env = (false, eval b X.env) :: starEach [] X.env := by rfl)
    (hpl : ((PySem.backTo pos (PySem.starEach [b] X.env)).any fun x => x.fst) = false := by rfl) : DI X E (.Tuple elts kk tp) (.Call (.Name "zip" nm) [a, b] [] pos) ((xs.zip ys).map (eP f g)) := zipD_map f g xs ys ▸ di_zip ha hb hg hm hs hs2 hpl
theorem di_enumL {elts : List Expr} {kk : Nat} {tp nm : Pos} (ha : DE X E a (eL f xs)) (hg : Gl X "enumerate") (hm : X.mg "enumerate" = none) (hs : starEach [a] X.env = [(false, eval a X.env)] := by rfl) : DI X E (.Tuple elts kk tp) (.Call (.Name "enumerate" nm) [a] [] pos) ((enumL xs).map (eP .int f)) := enumD_map f xs ▸ di_enum ha hg hm hs
end

/-! ### loops by a function of the turn -/
inductive Go (σ ρ : Type) where
  | nx (s : σ) | bk (s : σ) | rt (r : ρ)
def forG {α σ ρ : Type} (step : σ → α → Go σ ρ) : List α → σ → Go σ ρ
  | [], s => .nx s
  | x :: xs, s => match step s x with
    | .nx s' => forG step xs s'
    | .bk s' => .nx s'
    | .rt r => .rt r
def whileG {σ ρ : Type} (cond : σ → Bool) (step : σ → Go σ ρ) : Nat → σ → Go σ ρ
  | 0, s => .nx s
  | n + 1, s => match cond s with
    | false => .nx s
    | true => match step s with
      | .nx s' => whileG cond step n s'
      | .bk s' => .nx s'
      | .rt r => .rt r
def Out.isRt : Out → Bool
  | .rt _ => true
  | .ex _ _ _ => true
  | _ => false
def bodyP {σ ρ : Type} (env : σ → List Sl) (go : Go σ ρ) (Inv InvN : σ → Prop) (Pr : ρ → Out → Prop) : Out → Prop
  | .nx E => ∃ s', go = .nx s' ∧ Le E (env s') ∧ Inv s'
  | .ct E => ∃ s', go = .nx s' ∧ Le E (env s') ∧ Inv s'
  | .bk E => ∃ s', go = .bk s' ∧ Le E (env s') ∧ InvN s'
  | o => ∃ r, go = .rt r ∧ Pr r o
section
variable {X : Cx} {W : WX} {st : Stmt} {sts rest bod : List Stmt} {E E' : List Sl} {P P' : Out → Prop} {e a b c : Expr} {es : List Expr} {x y z : PyData} {pos : Pos} {t : OT} {p : Bool} {α σ ρ : Type}
theorem bodyP_lp {env : σ → List Sl} {go : Go σ ρ} {Inv InvN : σ → Prop} {Pr : ρ → Out → Prop} {I N : List Sl → Prop} (h : DSs X W bod E (bodyP env go Inv InvN Pr)) (h1 : ∀ s', go = .nx s' → Inv s' → I (env s')) (h2 : ∀ s', go = .bk s' → InvN s' → N (env s')) (h3 : ∀ r o, go = .rt r → o.isRt = true → Pr r o → P o) :
    DSs X W bod E (lp I N P) := by
  refine ⟨fun M L H σ D EI k => h.run M L H σ D EI ⟨fun E' L' H' σ' p s J => ?_, fun E' L' H' σ' p s J => ?_, fun E' L' H' σ' p s J => ?_, fun t v L' H' F p s d hF nF o => ?_, fun C E' L' H' σ' p s J => ?_, fun C fs E' L' H' σ' d gs F p s J => ?_⟩⟩
  · obtain ⟨s', q1, q2, q3⟩ := p
    exact k.nx _ L' H' σ' (h1 s' q1 q3) s (J.le q2)
  · obtain ⟨s', q1, q2, q3⟩ := p
    exact k.bk _ L' H' σ' (h2 s' q1 q3) s (J.le q2)
  · obtain ⟨s', q1, q2, q3⟩ := p
    exact k.ct _ L' H' σ' (h1 s' q1 q3) s (J.le q2)
  · obtain ⟨r, q1, q2⟩ := p
    exact k.rt t v L' H' F (h3 r _ q1 rfl q2) s d hF nF o
  · obtain ⟨r, q1, q2⟩ := p
    exact k.ex C E' L' H' σ' (h3 r _ q1 rfl q2) s J
  · obtain ⟨r, q1, q2⟩ := p
    exact k.exd C fs E' L' H' σ' d gs F (h3 r _ q1 rfl q2) s J
theorem bodyP_rt {env : σ → List Sl} {go : Go σ ρ} {Inv InvN : σ → Prop} {Pr : ρ → Out → Prop} {o : Out} (h : o.isRt = true) (r : ρ) (h1 : go = .rt r) (h2 : Pr r o) : bodyP env go Inv InvN Pr o := by
  cases o with
  | nx => cases h
  | bk => cases h
  | ct => cases h
  | rt t => exact ⟨r, h1, h2⟩
  | ex C fs E => exact ⟨r, h1, h2⟩
theorem drop_get {xs : List α} {i : Nat} {a : α} (h : xs[i]? = some a) : xs.drop i = a :: xs.drop (i + 1) := by
  obtain ⟨hi, e⟩ := List.getElem?_eq_some_iff.mp h
  rw [List.drop_eq_getElem_cons hi, e]
theorem ds_forG {tg it : Expr} {f : PyData → List Sl → Option (List Sl)} {items : List α} {ea : α → PyData} (env : σ → List Sl) (step : σ → α → Go σ ρ) (s0 : σ) (Inv : Nat → σ → Prop) (InvN : σ → Prop) (Pr : ρ → Out → Prop) (C : CxF X W) (J : DI X E tg it (items.map ea)) {sl : List Nat} (T : TgR X tg f sl)
    (hE : Le E (env s0)) (h0 : Inv 0 s0)
    (turn : ∀ i a s, items[i]? = some a → Inv i s → ∃ E2, f (ea a) (env s) = some E2 ∧ DSs X W bod E2 (bodyP env (step s a) (Inv (i + 1)) InvN Pr))
    (hn : ∀ s, Inv items.length s → InvN s) (hrt : ∀ r o, forG step items s0 = .rt r → o.isRt = true → Pr r o → P o) (hrest : ∀ s', forG step items s0 = .nx s' → InvN s' → DSs X W rest (env s') P)
    (hf : ∀ v, foldedSetIterable it X.env v = pure v := by intro _; rfl) : DSs X W (.For tg it bod [] pos :: rest) E P := by
  refine ds_seq (Q := fun E' => ∃ s', forG step items s0 = .nx s' ∧ E' = env s' ∧ InvN s') ?_ fun E' ⟨s', h1, h2, h3⟩ => h2 ▸ hrest s' h1 h3
  refine ds_for (fun i E1 => ∃ s, E1 = env s ∧ forG step items s0 = forG step (items.drop i) s ∧ Inv i s) _ C J T hE ⟨s0, rfl, rfl, h0⟩ ?_ ?_ hf
  · rintro i x E1 hx ⟨s, rfl, hs, hi⟩
    rw [List.getElem?_map] at hx
    cases ha : items[i]? with
    | none => rw [ha] at hx; cases hx
    | some a =>
      rw [ha] at hx
      cases Option.some.inj hx
      obtain ⟨E2, h1, h2⟩ := turn i a s ha hi
      rw [drop_get ha] at hs
      refine ⟨E2, h1, bodyP_lp h2 (fun s' q v => ⟨s', rfl, ?_, v⟩) (fun s' q v => ⟨s', ?_, rfl, v⟩) fun r o q w v => hrt r o ?_ w v⟩
      · rw [hs, forG, q]
      · rw [hs, forG, q]
      · rw [hs, forG, q]
  · rintro E1 ⟨s, rfl, hs, hi⟩
    rw [List.length_map] at hi hs
    rw [List.drop_length, forG] at hs
    exact ⟨s, hs, rfl, hn s hi⟩
theorem ds_whileG (env : σ → List Sl) (cond : σ → Bool) (step : σ → Go σ ρ) (μ : σ → Nat) (s0 : σ) (Inv InvN : σ → Prop) (Pr : ρ → Out → Prop) (C : CxF X W)
    (hE : Le E (env s0)) (h0 : Inv s0) (hc : ∀ s, Inv s → DT X (env s) c (cond s))
    (turn : ∀ s, Inv s → cond s = true → DSs X W bod (env s) (bodyP env (step s) (fun s' => Inv s' ∧ μ s' < μ s) InvN Pr))
    (hn : ∀ s, Inv s → cond s = false → InvN s) (hrt : ∀ r o, whileG cond step (μ s0 + 1) s0 = .rt r → o.isRt = true → Pr r o → P o) (hrest : ∀ s', whileG cond step (μ s0 + 1) s0 = .nx s' → InvN s' → DSs X W rest (env s') P) :
    DSs X W (.While c bod [] pos :: rest) E P := by
  refine ds_le hE (ds_seq (Q := fun E' => ∃ s', whileG cond step (μ s0 + 1) s0 = .nx s' ∧ E' = env s' ∧ InvN s') ?_ fun E' ⟨s', h1, h2, h3⟩ => h2 ▸ hrest s' h1 h3)
  refine ds_while (fun n E1 => ∃ s, E1 = env s ∧ whileG cond step (μ s0 + 1) s0 = whileG cond step (n + 1) s ∧ Inv s ∧ μ s ≤ n) _ C (m0 := μ s0) ⟨s0, rfl, rfl, h0, Nat.le_refl _⟩ ?_
  rintro n E1 ⟨s, rfl, hs, hi, hμ⟩
  refine ⟨cond s, hc s hi, fun q => ?_, fun q => ?_⟩
  · have hs2 : whileG cond step (μ s0 + 1) s0 = match step s with
      | .nx s' => whileG cond step n s'
      | .bk s' => .nx s'
      | .rt r => .rt r := by rw [hs, whileG, q]
    refine bodyP_lp (turn s hi q) (fun s' w v => ⟨n - 1, by omega, s', rfl, ?_, v.1, by omega⟩) (fun s' w v => ⟨s', ?_, rfl, v⟩) fun r o w w2 v => hrt r o ?_ w2 v
    · rw [hs2, w, Nat.sub_add_cancel (by omega)]
    · rw [hs2, w]
    · rw [hs2, w]
  · exact ⟨s, by rw [hs, whileG, q], rfl, hn s hi q⟩
end
end D

end

section
set_option Elab.async false
set_option linter.all false
set_option autoImplicit false
set_option maxRecDepth 100000
set_option maxHeartbeats 2000000
namespace D
open PySem L2 PySem.Spec PyProof.Rows

/-! ### list comprehensions -/
theorem wipe_get {σ : L2.St} {j : Nat} : ∀ (vs : List Nat), (wipe σ vs)[j]? = if j ∈ vs then σ[j]?.map (fun _ => none) else σ[j]?
  | [] => by simp [wipe]
  | v :: vs => by
    unfold wipe
    by_cases h : v = j
    · subst h
      rw [if_pos List.mem_cons_self]
      by_cases hl : v < σ.length
      · rw [List.getElem?_set_self (by rw [wipe_length]; exact hl), List.getElem?_eq_getElem hl]
        rfl
      · rw [List.getElem?_eq_none (by rw [List.length_set, wipe_length]; omega), List.getElem?_eq_none (by omega)]
        rfl
    · rw [List.getElem?_set_ne h, wipe_get vs]
      by_cases m : j ∈ vs
      · rw [if_pos m, if_pos (List.mem_cons_of_mem _ m)]
      · rw [if_neg m, if_neg (fun z => (List.mem_cons.mp z).elim (fun q => h q.symm) m)]
theorem wipe_chg {σ σ2 : L2.St} {vs sl : List Nat} (h : Chg sl (wipe σ vs) σ2) (hs : ∀ j ∈ sl, j ∈ vs) : wipe σ2 vs = wipe σ vs := by
  apply List.ext_getElem?
  intro j
  rw [wipe_get, wipe_get]
  by_cases m : j ∈ vs
  · rw [if_pos m, if_pos m]
    have hl := h.len
    rw [wipe_length] at hl
    by_cases q : j < σ.length
    · rw [List.getElem?_eq_getElem q, List.getElem?_eq_getElem (by omega)]
      rfl
    · rw [List.getElem?_eq_none (by omega), List.getElem?_eq_none (by omega)]
  · rw [if_neg m, if_neg m, h.get j fun z => m (hs j z), wipe_get, if_neg m]
def wipeE (E : List Sl) : List Nat → List Sl
  | [] => E
  | v :: vs => (wipeE E vs).set v .no
theorem EnvR.wipe {K : PySem.W.Frag} {M L : List Addr} {H : Hp} {σ : L2.St} {E : List Sl} (h : EnvR K M L H σ E) : ∀ vs : List Nat, EnvR K M L H (wipe σ vs) (wipeE E vs)
  | [] => h
  | v :: vs => (EnvR.wipe h vs).setNo
theorem EnvR.hide {K : PySem.W.Frag} {M L : List Addr} {H H' : Hp} {σ : L2.St} {E : List Sl} {p : Addr} (h : EnvR K M L H σ E) (hp : H p = none) (s : Same H H') (hp' : H' p ≠ none) : EnvR K (p :: M) L H' σ E := by
  obtain ⟨⟨F, hs, nF, hL⟩, dom, dj⟩ := h
  refine ⟨⟨F, hs.mono (fz_mono fun a o n e => ⟨fun z => ?_, s a o e⟩) (fun a ha => ?_), nF, hL⟩, fun a ha => ?_, fun a ha z => ?_⟩
  · rcases List.mem_append.mp z with z | z
    · exact n (List.mem_append_left _ z)
    · rcases List.mem_cons.mp z with z | z
      · rw [z, hp] at e; cases e
      · exact n (List.mem_append_right _ z)
  · obtain ⟨h1, vs, h2⟩ := hs.sub a ha
    exact ⟨(List.mem_append.mp h1).elim (fun z => List.mem_append_left _ z) fun z => List.mem_append_right _ (List.mem_cons_of_mem _ z), eq_same s h2⟩
  · rcases List.mem_append.mp ha with z | z
    · exact not_none_same s (dom a (List.mem_append_left _ z))
    · rcases List.mem_cons.mp z with z | z
      · exact z ▸ hp'
      · exact not_none_same s (dom a (List.mem_append_right _ z))
  · rcases List.mem_cons.mp z with z | z
    · exact dom a (List.mem_append_left _ ha) (z ▸ hp)
    · exact dj a ha z
structure DTs (X : Cx) (E : List Sl) (ifs : List Expr) (b : Bool) : Prop where
  ex : ∃ tt, PTs X ifs tt ∧ EvT X.K tt E b
theorem dts_nil {X : Cx} {E : List Sl} : DTs X E [] true := ⟨_, pts_nil, fun M L H σ Q I k => k H (Same.refl H)⟩
theorem dts_one {X : Cx} {E : List Sl} {c : Expr} {b : Bool} (h : DT X E c b) : DTs X E [c] b := by
  obtain ⟨t, h1, h2⟩ := h
  exact ⟨t, pts_one h1, h2⟩
abbrev blkX (X : Cx) (scope : Scope) (s : Shared) (H : Hp) (C : Addr) (cl : List (Str × Addr)) (fp : List Addr) : Cx := X.blk s H scope (compEnvC scope cl C X.env) fp
theorem pe_allE {X : Cx} {e : Expr} : PE X e (fun σ H Q => ∃ te, PE X e te ∧ te σ H Q) := ⟨fun pins s σ H Q I ⟨t, h, q⟩ => h.run pins s σ H Q I q⟩
section
variable {X : Cx} {E : List Sl} {elt tg it : Expr} {ifs : List Expr} {scope : Scope} {own : List (Str × Nat)} {pos : Pos} {α β : Type} {ea : α → PyData} {eb : β → PyData} {items : List α} {f : PyData → List Sl → Option (List Sl)} {sl : List Nat}
/-- what a comprehension's turn is: what it does with an item -/
structure Turn1 (X : Cx) (E : List Sl) (elt tg : Expr) (ifs : List Expr) (scope : Scope) (vs : List Nat) (f : PyData → List Sl → Option (List Sl)) (x : PyData) (r : Option PyData) : Prop where
  ex : ∃ E2 b, f x (wipeE E vs) = some E2 ∧ ∀ s H C cl fp, DTs (blkX X scope s H C cl fp) E2 ifs b ∧ (b = true → ∃ y, r = some y ∧ DE (blkX X scope s H C cl fp) E2 elt y) ∧ (b = false → r = none)
theorem RA.snoc {K : PySem.W.Frag} {H : Hp} {vs : List V} {ds : List PyData} {v : V} {x : PyData} (h : RA K H vs ds) (r : R K H v x) : RA K H (vs ++ [v]) (ds ++ [x]) := h.append (.cons r .nil)
theorem filterMap_take {xs : List α} {h : α → Option PyData} {i : Nat} {x : α} (e : xs[i]? = some x) : (xs.take (i + 1)).filterMap h = (xs.take i).filterMap h ++ (h x).toList := by
  rw [List.take_add_one, e, List.filterMap_append]
  show _ ++ List.filterMap h [x] = _
  cases q : h x with
  | none => simp [q]
  | some y => simp [q]
def lcG (X : Cx) (scope : Scope) (tg : Expr) : TG := fun v σ H Q => ∀ s H' C cl fp, ∃ g, PG (blkX X scope s H' C cl fp) tg g ∧ g v σ H Q
def lcT (X : Cx) (scope : Scope) (ifs : List Expr) : TT := fun σ H Q => ∀ s H' C cl fp, ∃ t, PTs (blkX X scope s H' C cl fp) ifs t ∧ t σ H Q
def lcE (X : Cx) (scope : Scope) (elt : Expr) : TE := fun σ H Q => ∀ s H' C cl fp, ∃ t, PE (blkX X scope s H' C cl fp) elt t ∧ t σ H Q
theorem lcG_ok (s : Shared) (H : Hp) (C : Addr) (cl : List (Str × Addr)) (fp : List Addr) : PG (blkX X scope s H C cl fp) tg (lcG X scope tg) := ⟨fun pins s' σ H' v u Q I r h => by
    obtain ⟨g, g1, g2⟩ := h s H C cl fp
    exact g1.run pins s' σ H' v u Q I r g2⟩
theorem lcT_ok (s : Shared) (H : Hp) (C : Addr) (cl : List (Str × Addr)) (fp : List Addr) : PTs (blkX X scope s H C cl fp) ifs (lcT X scope ifs) := ⟨fun pins s' σ H' Q I h => by
    obtain ⟨g, g1, g2⟩ := h s H C cl fp
    exact g1.run pins s' σ H' Q I g2⟩
theorem lcE_ok (s : Shared) (H : Hp) (C : Addr) (cl : List (Str × Addr)) (fp : List Addr) : PE (blkX X scope s H C cl fp) elt (lcE X scope elt) := ⟨fun pins s' σ H' Q I h => by
    obtain ⟨g, g1, g2⟩ := h s H C cl fp
    exact g1.run pins s' σ H' Q I g2⟩
theorem lc_run {xs : List α} (h : α → Option PyData) (J : DI X E tg it (xs.map ea)) (T : ∀ s H C cl fp, TgR (blkX X scope s H C cl fp) tg f sl) (hsl : ∀ j ∈ sl, j ∈ own.map (·.2)) (hl : xs.length < sizeLine)
    (turn : ∀ x ∈ xs, Turn1 X E elt tg ifs scope (own.map (·.2)) f (ea x) (h x)) {M L : List Addr} {H : Hp} {σ : L2.St} {Q : VK} (EI : EnvR X.K M L H σ E)
    (k : ∀ v H' F, Same H H' → F.Nodup → (∀ a ∈ F, H a = none) → Own X.K (F ++ (L ++ M)) H' v (.l ((xs.filterMap h).map .d)) F → Q v H') : ∃ wi, PI X tg it wi ∧ tLc wi (lcG X scope tg) (lcT X scope ifs) (lcE X scope elt) (own.map (·.2)) σ H Q := by
  obtain ⟨wi, w1, w2⟩ := J.run M L H σ (fun J H1 => ∀ D, H1 D = none → ∃ W : Nat → Nat → Hp → Prop, (∃ m, W 0 m (upd H1 D (.lst []))) ∧ ∀ i m H, W i m H →
      (J.stop i H ∧ Q (.ref D) H) ∨ (J.go i H ∧ ∃ Nx : Hp → Prop, (∀ H', Nx H' → ∃ m', m' < m ∧ W (i + 1) m' H') ∧ ∀ x H', J.yld i H x H' → lcG X scope tg x (wipe σ (own.map (·.2))) H' fun σ2 H2 => wipe σ2 (own.map (·.2)) = wipe σ (own.map (·.2)) ∧ lcT X scope ifs σ2 H2 fun b H3 =>
        if b = true then lcE X scope elt σ2 H3 fun y H4 => ∃ acc, H4 D = some (.lst acc) ∧ acc.length < sizeLine ∧ Nx (upd H4 D (.lst (acc ++ [y]))) else Nx H3)) EI (fun J H1 s1 w D hD => by
    obtain ⟨G, Y, wk, hG, hY⟩ := w
    have sD : Same H1 (upd H1 D (.lst [])) := same_new hD
    have I1 := EI.same s1
    have nD : D ∉ L ++ M := fun z => I1.dom D z hD
    -- what a later heap is
    let Pv : Nat → Hp → Prop := fun i H' => (∀ a o, a ≠ D → H1 a = some o → H' a = some o) ∧ ∃ acc, H' D = some (.lst acc) ∧ RA X.K (fz (L ++ (D :: M)) H') acc ((xs.take i).filterMap h)
    have eP : ∀ i H', Pv i H' → EnvR X.K (D :: M) L H' σ E ∧ Same (fz (L ++ M) H1) (fz (L ++ (D :: M)) H') := fun i H' ⟨p1, acc, p2, _⟩ => by
      have s' : Same H1 H' := fun a o e => p1 a o (fun z => by rw [z, hD] at e; cases e) e
      refine ⟨I1.hide hD s' (by rw [p2]; exact fun z => by cases z), fz_mono fun a o n e => ⟨fun z => ?_, s' a o e⟩⟩
      rcases List.mem_append.mp z with z | z
      · exact n (List.mem_append_left _ z)
      · rcases List.mem_cons.mp z with z | z
        · rw [z, hD] at e; cases e
        · exact n (List.mem_append_right _ z)
    refine lc_it wk Pv ⟨fun a o n e => by rw [upd_ne n]; exact e, [], upd_same, .nil⟩ (fun i H' _ p => hG _ _ (eP i H' p).2) ?_ ?_
    · intro i v H' H2 hi p y
      obtain ⟨eI, sm⟩ := eP i H' p
      obtain ⟨s2, x', hx', rx⟩ := hY _ _ i v H2 sm eI.dom hi y
      obtain ⟨x, hx, rfl⟩ : ∃ x, xs[i]? = some x ∧ ea x = x' := by
        rw [List.getElem?_map] at hx'
        cases q : xs[i]? with
        | none => rw [q] at hx'; cases hx'
        | some a => rw [q] at hx'; exact ⟨a, rfl, Option.some.inj hx'⟩
      obtain ⟨E2, b, f2, tn⟩ := (turn x (List.mem_of_getElem? hx)).ex
      obtain ⟨p1, acc, p2, p3⟩ := p
      intro s H0 C cl fp
      obtain ⟨g, g1, g2⟩ := (T s H0 C cl fp).ex
      refine ⟨g, g1, g2 (D :: M) L H2 _ v (ea x) _ E2 _ ((eI.same s2).wipe _) rx f2 fun σ2 e2 ch => ⟨wipe_chg ch hsl, ?_⟩⟩
      intro s H0 C cl fp
      obtain ⟨⟨tt, t1, t2⟩, hT, hF⟩ := tn s H0 C cl fp
      refine ⟨tt, t1, t2 (D :: M) L H2 σ2 _ e2 fun H3 s3 => ?_⟩
      have q3 : ∀ a o, a ≠ D → H1 a = some o → H3 a = some o := fun a o n e => s3 a o (s2 a o (p1 a o n e))
      have d3 : H3 D = some (.lst acc) := s3 _ _ (s2 _ _ p2)
      have r3 : RA X.K (fz (L ++ (D :: M)) H3) acc ((xs.take i).filterMap h) := RA.same (fz_same (s2.trans s3)) _ _ p3
      cases b with
      | false =>
        refine iteF ⟨q3, acc, d3, ?_⟩
        rw [filterMap_take hx, hF rfl]
        simpa using r3
      | true =>
        refine iteT fun s H0 C cl fp => ?_
        obtain ⟨y, hy, te, b1, b2⟩ := (tn s H0 C cl fp).2.1 rfl
        refine ⟨te, b1, b2 (D :: M) L H3 σ2 _ (e2.same s3) fun w H4 s4 r4 => ⟨acc, s4 _ _ d3, ?_, fun a o n e => by rw [upd_ne n]; exact s4 a o (q3 a o n e), acc ++ [w], upd_same, ?_⟩⟩
        · rw [p3.length]
          exact Nat.lt_of_le_of_lt (Nat.le_trans (List.length_filterMap_le _ _) (by rw [List.length_take]; exact Nat.min_le_right _ _)) hl
        · rw [filterMap_take hx, hy, fz_upd (List.mem_append_right _ List.mem_cons_self)]
          exact RA.snoc (RA.same (fz_same s4) _ _ r3) r4
    · rintro H' ⟨p1, acc, p2, p3⟩
      have s' : Same H H' := fun a o e => p1 a o (fun z => by rw [z] at e; rw [s1 _ _ e] at hD; cases hD) (s1 a o e)
      refine k (.ref D) H' [D] s' (by simp) (fun a ha => by cases List.mem_singleton.mp ha; exact s1.free hD) ?_
      rw [List.length_map, List.take_length] at p3
      refine .l List.mem_cons_self p2 (Owns.ofRA (RA.same (fz_mono fun a o n e => ⟨fun z => n ?_, e⟩) _ _ p3))
      rcases List.mem_append.mp z with z | z
      · rw [List.mem_singleton.mp z]; exact List.mem_append_right _ List.mem_cons_self
      · rcases List.mem_append.mp z with z | z
        · exact List.mem_append_left _ z
        · exact List.mem_append_right _ (List.mem_cons_of_mem _ z))
  exact ⟨wi, w1, w2⟩
theorem dn_lc0 {xs : List α} (h : α → Option PyData) (hc : X.calm = true) (hN : X.N.Nodup) (J : DI X E tg it (xs.map ea)) (ok : BlkOk X.N X.env.scope scope own) (T : ∀ s H C cl fp, TgR (blkX X scope s H C cl fp) tg f sl) (hsl : ∀ j ∈ sl, j ∈ own.map (·.2)) (hl : xs.length < sizeLine)
    (turn : ∀ x ∈ xs, Turn1 X E elt tg ifs scope (own.map (·.2)) f (ea x) (h x)) (hs : ∀ x, foldedSetIterable it X.env x = pure x := by intro _; rfl) : DN X E (.ListComp elt [⟨tg, it, ifs, 0⟩] scope pos) (.l ((xs.filterMap h).map .d)) := by
  refine ⟨_, pe_allE, fun M L H σ Q EI k => ?_⟩
  obtain ⟨wi, w1, w2⟩ := lc_run h J T hsl hl turn EI k
  exact ⟨_, pe_lc hc hN w1 ok lcG_ok lcT_ok lcE_ok hs, w2⟩
/-- y = [..] -/
theorem ds_setLc0 {xs : List α} (h : α → Option PyData) {i : Nat} {n : Str} {py spos : Pos} {W : WX} {P : Out → Prop} {E' : List Sl} (N : LocN X i n) (hyl : X.env.scope.names.lookup n = some .local) (hsw : swapsWith (.ListComp elt [⟨tg, it, ifs, 0⟩] scope pos) (some (.Name n py)) spos.line X.env = pure true)
    (hc : X.calm = true) (J : DI X E tg it (xs.map ea)) (ok : BlkOk X.N X.env.scope scope own) (T : ∀ s H C cl fp, TgR (blkX X scope s H C cl fp) tg f sl) (hsl : ∀ j ∈ sl, j ∈ own.map (·.2)) (hl : xs.length < sizeLine)
    (turn : ∀ x ∈ xs, Turn1 X E elt tg ifs scope (own.map (·.2)) f (ea x) (h x)) (hE : E.set i (.o (.l ((xs.filterMap h).map .d))) = E') (hi : Nat.ble (i + 1) E.length = true) (hs : ∀ x, foldedSetIterable it X.env x = pure x) : DS X W (.Assign [.Name n py] (.ListComp elt [⟨tg, it, ifs, 0⟩] scope pos) spos) E (th (· = E') P) := by
  refine ⟨fun M L H σ D EI k => ?_⟩
  obtain ⟨wi, w1, w2⟩ := lc_run (Q := fun x H1 => gName i x σ H1 D.nx) h J T hsl hl turn EI fun v H' F s1 nF hF o => k.nx E' (F ++ L) H' _ rfl (Step.more s1 hF) (hE ▸ EI.setN (Nat.le_of_ble_eq_true hi) s1 hF nF o)
  exact ⟨_, ps_setLc hc N.nd N.ix hyl hsw w1 ok lcG_ok lcT_ok lcE_ok hs, w2⟩
/-- [elt for x in xs] -/
theorem dn_lc (g : α → β) (hc : X.calm = true) (hN : X.N.Nodup) (J : DI X E tg it (items.map ea)) (ok : BlkOk X.N X.env.scope scope own) (T : ∀ s H C cl fp, TgR (blkX X scope s H C cl fp) tg f sl) (hl : items.length < sizeLine)
    (turn : ∀ x ∈ items, ∃ E2, f (ea x) (wipeE E (own.map (·.2))) = some E2 ∧ ∀ s H C cl fp, DE (blkX X scope s H C cl fp) E2 elt (eb (g x))) (hsl : ∀ j ∈ sl, j ∈ own.map (·.2) := by decide) (hs : ∀ x, foldedSetIterable it X.env x = pure x := by intro _; rfl) : DN X E (.ListComp elt [⟨tg, it, [], 0⟩] scope pos) (oL eb (items.map g)) := by
  refine (dn_lc0 (fun a => some (eb (g a))) hc hN J ok T hsl hl (fun x hx => ?_) hs).cast ?_
  · obtain ⟨E2, h1, h2⟩ := turn x hx
    exact ⟨E2, true, h1, fun s H C cl fp => ⟨dts_nil, fun _ => ⟨_, rfl, h2 s H C cl fp⟩, fun q => by cases q⟩⟩
  · show OT.l _ = OT.l _
    congr 1
    congr 1
    rw [List.map_map, ← List.filterMap_eq_map]
    rfl
/-- [elt for x in xs if c] -/
theorem dn_lcIf {c : Expr} (p : α → Bool) (g : α → β) (hc : X.calm = true) (hN : X.N.Nodup) (J : DI X E tg it (items.map ea)) (ok : BlkOk X.N X.env.scope scope own) (T : ∀ s H C cl fp, TgR (blkX X scope s H C cl fp) tg f sl) (hl : items.length < sizeLine)
    (turn : ∀ x ∈ items, ∃ E2, f (ea x) (wipeE E (own.map (·.2))) = some E2 ∧ ∀ s H C cl fp, DT (blkX X scope s H C cl fp) E2 c (p x) ∧ (p x = true → DE (blkX X scope s H C cl fp) E2 elt (eb (g x)))) (hsl : ∀ j ∈ sl, j ∈ own.map (·.2) := by decide) (hs : ∀ x, foldedSetIterable it X.env x = pure x := by intro _; rfl) : DN X E (.ListComp elt [⟨tg, it, [c], 0⟩] scope pos) (oL eb ((items.filter p).map g)) := by
  refine (dn_lc0 (fun a => bif p a then some (eb (g a)) else none) hc hN J ok T hsl hl (fun x hx => ?_) hs).cast ?_
  · obtain ⟨E2, h1, h2⟩ := turn x hx
    refine ⟨E2, p x, h1, fun s H C cl fp => ⟨dts_one (h2 s H C cl fp).1, fun q => ⟨_, by rw [q]; rfl, (h2 s H C cl fp).2 q⟩, fun q => by rw [q]; rfl⟩⟩
  · congr 1
    rw [List.map_map]
    clear turn hl hs J
    induction items with
    | nil => rfl
    | cons a l ih =>
      cases q : p a with
      | true => simp [q, ih]
      | false => simp [q, ih]

theorem fm_some (g : α → β) (l : List α) : OT.l ((l.filterMap fun a => some (eb (g a))).map .d) = oL eb (l.map g) := by
  show OT.l _ = OT.l _
  congr 1
  congr 1
  rw [List.map_map, ← List.filterMap_eq_map]
  rfl
theorem fm_if (p : α → Bool) (g : α → β) (l : List α) : OT.l ((l.filterMap fun a => bif p a then some (eb (g a)) else none).map .d) = oL eb ((l.filter p).map g) := by
  show OT.l _ = OT.l _
  congr 1
  congr 1
  rw [List.map_map]
  induction l with
  | nil => rfl
  | cons a l ih =>
    cases q : p a with
    | true => simp [q, ih]
    | false => simp [q, ih]
theorem ds_setLc (g : α → β) {i : Nat} {n : Str} {py spos : Pos} {W : WX} {P : Out → Prop} {E' : List Sl} (N : LocN X i n) (hyl : X.env.scope.names.lookup n = some .local) (hsw : swapsWith (.ListComp elt [⟨tg, it, [], 0⟩] scope pos) (some (.Name n py)) spos.line X.env = pure true)
    (hc : X.calm = true) (J : DI X E tg it (items.map ea)) (ok : BlkOk X.N X.env.scope scope own) (T : ∀ s H C cl fp, TgR (blkX X scope s H C cl fp) tg f sl) (hl : items.length < sizeLine)
    (turn : ∀ x ∈ items, ∃ E2, f (ea x) (wipeE E (own.map (·.2))) = some E2 ∧ ∀ s H C cl fp, DE (blkX X scope s H C cl fp) E2 elt (eb (g x))) (hE : E.set i (.o (oL eb (items.map g))) = E' := by rfl) (hsl : ∀ j ∈ sl, j ∈ own.map (·.2) := by decide) (hi : Nat.ble (i + 1) E.length = true := by rfl) (hs : ∀ x, foldedSetIterable it X.env x = pure x := by intro _; rfl) :
    DS X W (.Assign [.Name n py] (.ListComp elt [⟨tg, it, [], 0⟩] scope pos) spos) E (th (· = E') P) :=
  ds_setLc0 (fun a => some (eb (g a))) N hyl hsw hc J ok T hsl hl (fun x hx => by
    obtain ⟨E2, h1, h2⟩ := turn x hx
    exact ⟨E2, true, h1, fun s H C cl fp => ⟨dts_nil, fun _ => ⟨_, rfl, h2 s H C cl fp⟩, fun q => by cases q⟩⟩) (by rw [fm_some]; exact hE) hi hs
theorem ds_setLcIf {c : Expr} (p : α → Bool) (g : α → β) {i : Nat} {n : Str} {py spos : Pos} {W : WX} {P : Out → Prop} {E' : List Sl} (N : LocN X i n) (hyl : X.env.scope.names.lookup n = some .local) (hsw : swapsWith (.ListComp elt [⟨tg, it, [c], 0⟩] scope pos) (some (.Name n py)) spos.line X.env = pure true)
    (hc : X.calm = true) (J : DI X E tg it (items.map ea)) (ok : BlkOk X.N X.env.scope scope own) (T : ∀ s H C cl fp, TgR (blkX X scope s H C cl fp) tg f sl) (hl : items.length < sizeLine)
    (turn : ∀ x ∈ items, ∃ E2, f (ea x) (wipeE E (own.map (·.2))) = some E2 ∧ ∀ s H C cl fp, DT (blkX X scope s H C cl fp) E2 c (p x) ∧ (p x = true → DE (blkX X scope s H C cl fp) E2 elt (eb (g x)))) (hE : E.set i (.o (oL eb ((items.filter p).map g))) = E' := by rfl) (hsl : ∀ j ∈ sl, j ∈ own.map (·.2) := by decide) (hi : Nat.ble (i + 1) E.length = true := by rfl) (hs : ∀ x, foldedSetIterable it X.env x = pure x := by intro _; rfl) :
    DS X W (.Assign [.Name n py] (.ListComp elt [⟨tg, it, [c], 0⟩] scope pos) spos) E (th (· = E') P) :=
  ds_setLc0 (fun a => bif p a then some (eb (g a)) else none) N hyl hsw hc J ok T hsl hl (fun x hx => by
    obtain ⟨E2, h1, h2⟩ := turn x hx
    exact ⟨E2, p x, h1, fun s H C cl fp => ⟨dts_one (h2 s H C cl fp).1, fun q => ⟨_, by rw [q]; rfl, (h2 s H C cl fp).2 q⟩, fun q => by rw [q]; rfl⟩⟩) (by rw [fm_if]; exact hE) hi hs
end
/-! ### lists that are handed on: frozen, borrowed -/
theorem Slots.freeze {K : PySem.W.Frag} {W : List Addr} {H : Hp} {σ : L2.St} {E : List Sl} {F : List Addr} (h : Slots K W H σ E F) : F.Nodup → ∀ (i : Nat) (t : OT), E[i]? = some (.o t) → ∃ G : List Addr, (∀ a ∈ G, a ∈ F) ∧ ∀ W' : List Addr, (∀ a o, a ∉ W → H a = some o → a ∉ W') → (∀ a ∈ G, a ∉ W') → (∀ a ∈ F, a ∉ G → a ∈ W') →
    ∃ F', Slots K W' H σ (E.set i (.o (.d t.dat))) F' ∧ F'.Nodup ∧ ∀ a ∈ F', a ∈ F ∧ a ∉ G := by
  induction h with
  | nil => intro _ i t e; simp at e
  | no hs ih =>
    intro nF i t e
    cases i with
    | zero => simp at e
    | succ i =>
      obtain ⟨G, g1, g2⟩ := ih nF i t (by simpa using e)
      refine ⟨G, g1, fun W' h1 h2 h3 => ?_⟩
      obtain ⟨F', k1, k2, k3⟩ := g2 W' h1 h2 h3
      exact ⟨F', .no k1, k2, k3⟩
  | raw hs ih =>
    intro nF i t e
    cases i with
    | zero => simp at e
    | succ i =>
      obtain ⟨G, g1, g2⟩ := ih nF i t (by simpa using e)
      refine ⟨G, g1, fun W' h1 h2 h3 => ?_⟩
      obtain ⟨F', k1, k2, k3⟩ := g2 W' h1 h2 h3
      exact ⟨F', .raw k1, k2, k3⟩
  | fx r hs ih =>
    intro nF i t e
    cases i with
    | zero => simp at e
    | succ i =>
      obtain ⟨G, g1, g2⟩ := ih nF i t (by simpa using e)
      refine ⟨G, g1, fun W' h1 h2 h3 => ?_⟩
      obtain ⟨F', k1, k2, k3⟩ := g2 W' h1 h2 h3
      exact ⟨F', .fx (R.same (fz_mono fun a o n q => ⟨h1 a o n q, q⟩) _ _ r) k1, k2, k3⟩
  | @o v1 t1 G1 σ1 E1 F1 ho hs ih =>
    intro nF i t e
    obtain ⟨n1, n2, n3⟩ := List.nodup_append.mp nF
    cases i with
    | zero =>
      cases Option.some.inj e
      refine ⟨G1, fun a ha => List.mem_append_left _ ha, fun W' h1 h2 h3 => ⟨[] ++ F1, .o (.d (Own.rd _ _ _ ho (fun a o n q => ⟨h1 a o n q, q⟩) fun a ha => ⟨h2 a ha, rfl⟩)) (hs.mono (fz_mono fun a o n q => ⟨h1 a o n q, q⟩) fun a ha => ⟨h3 a (List.mem_append_right _ ha) fun z => n3 a z a ha rfl, rfl⟩), n2, fun a ha => ⟨List.mem_append_right _ ha, fun z => n3 a z a ha rfl⟩⟩⟩
    | succ i =>
      obtain ⟨G, g1, g2⟩ := ih n2 i t (by simpa using e)
      refine ⟨G, fun a ha => List.mem_append_right _ (g1 a ha), fun W' h1 h2 h3 => ?_⟩
      obtain ⟨F', k1, k2, k3⟩ := g2 W' h1 h2 (fun a ha n => h3 a (List.mem_append_right _ ha) n)
      have nG : ∀ a ∈ G1, a ∉ G := fun a ha z => n3 a ha a (g1 a z) rfl
      refine ⟨_, .o (Own.mono (fz_mono fun a o n q => ⟨h1 a o n q, q⟩) _ _ _ (fun a ha => ⟨h3 a (List.mem_append_left _ ha) (nG a ha), rfl⟩) ho) k1, List.nodup_append.mpr ⟨n1, k2, fun a ha b hb q => n3 a ha b (k3 b hb).1 q⟩, fun a ha => ?_⟩
      rcases List.mem_append.mp ha with z | z
      · exact ⟨List.mem_append_left _ z, nG a z⟩
      · exact ⟨List.mem_append_right _ (k3 a z).1, (k3 a z).2⟩
theorem EnvR.freeze {K : PySem.W.Frag} {M L : List Addr} {H : Hp} {σ : L2.St} {E : List Sl} {i : Nat} {t : OT} (h : EnvR K M L H σ E) (e : E[i]? = some (.o t)) : ∃ L', EnvR K M L' H σ (E.set i (.o (.d t.dat))) ∧ Step L H L' H ∧ (∀ a ∈ L', a ∈ L) ∧ ∀ a ∈ L, a ∉ L' → ∃ xs, H a = some (.lst xs) := by
  obtain ⟨⟨F, hs, nF, hL⟩, dom, dj⟩ := h
  obtain ⟨G, g1, g2⟩ := hs.freeze nF i t e
  let L' := L.filter fun a => decide (a ∉ G)
  have hL' : ∀ a, a ∈ L' ↔ a ∈ L ∧ a ∉ G := fun a => by simp [L']
  obtain ⟨F', k1, k2, k3⟩ := g2 (L' ++ M) (fun a o n _ z => n ((List.mem_append.mp z).elim (fun q => List.mem_append_left _ ((hL' a).mp q).1) fun q => List.mem_append_right _ q))
    (fun a ha z => (List.mem_append.mp z).elim (fun q => ((hL' a).mp q).2 ha) fun q => dj a (hL a (g1 a ha)) q) (fun a ha n => List.mem_append_left _ ((hL' a).mpr ⟨hL a ha, n⟩))
  refine ⟨L', ⟨⟨F', k1, k2, fun a ha => (hL' a).mpr ⟨hL a (k3 a ha).1, (k3 a ha).2⟩⟩, fun a ha => dom a ((List.mem_append.mp ha).elim (fun q => List.mem_append_left _ ((hL' a).mp q).1) fun q => List.mem_append_right _ q), fun a ha => dj a ((hL' a).mp ha).1⟩, ⟨fun a o _ q => q, fun a ha => .inl ((hL' a).mp ha).1, fun a q => q⟩, fun a ha => ((hL' a).mp ha).1, fun a ha n => ?_⟩
  have hG : a ∈ G := Classical.byContradiction fun z => n ((hL' a).mpr ⟨ha, z⟩)
  exact (hs.sub a (g1 a hG)).2
theorem ds_freeze {X : Cx} {W : WX} {sts : List Stmt} {E E' : List Sl} {P : Out → Prop} (i : Nat) {t : OT} (e : E[i]? = some (.o t)) (hE : E.set i (.o (.d t.dat)) = E') (h : DSs X W sts E' P) : DSs X W sts E P := by
  subst hE
  refine ⟨fun M L H σ D I k => ?_⟩
  obtain ⟨L', I', s, _⟩ := I.freeze e
  exact h.run M L' H σ D I' (k.step s)
mutual
/-- no list within -/
def flat : PyData → Bool
  | .list _ => false
  | .dict _ => false
  | .tuple ds => flats ds
  | _ => true
def flats : List PyData → Bool
  | [] => true
  | d :: ds => flat d && flats ds
end
mutual
theorem R.flat {K : PySem.W.Frag} {W W' : List Addr} {H : Hp} (h : ∀ a o, a ∉ W' → H a = some o → a ∉ W ∨ ∃ xs, o = .lst xs) : ∀ (d : PyData) (v : V), flat d = true → R K (fz W' H) v d → R K (fz W H) v d
  | .none, _, _, r => by cases r; exact .non
  | .bool b, _, _, r => by cases r; exact .bl b
  | .int i, _, _, r => by cases r; exact .int i
  | .str x, _, _, r => by cases r; exact .str x
  | .list ds, _, n, r => by simp [D.flat] at n
  | .dict ds, _, n, r => by simp [D.flat] at n
  | .tuple ds, _, n, r => by
    cases r with
    | tup hs ha =>
      refine .tup ?_ (RA.flat h ds _ (by simpa [D.flat] using n) ha)
      rcases hs with (q | ⟨o, q⟩) | q
      · obtain ⟨n1, q1⟩ := fz_some q
        rcases h _ _ n1 q1 with z | ⟨xs, z⟩
        · exact .inl (.inl (by rw [fz_of z]; exact q1))
        · cases z
      · obtain ⟨n1, q1⟩ := fz_some q
        rcases h _ _ n1 q1 with z | ⟨xs, z⟩
        · exact .inl (.inr ⟨o, by rw [fz_of z]; exact q1⟩)
        · cases z
      · exact .inr q
theorem RA.flat {K : PySem.W.Frag} {W W' : List Addr} {H : Hp} (h : ∀ a o, a ∉ W' → H a = some o → a ∉ W ∨ ∃ xs, o = .lst xs) : ∀ (ds : List PyData) (vs : List V), flats ds = true → RA K (fz W' H) vs ds → RA K (fz W H) vs ds
  | [], _, _, r => by cases r; exact .nil
  | d :: ds, _, n, r => by
    have n' : D.flat d = true ∧ flats ds = true := by simpa [flats] using n
    cases r with
    | cons r1 r2 => exact .cons (R.flat h d _ n'.1 r1) (RA.flat h ds _ n'.2 r2)
end
theorem Owns.toRA {K : PySem.W.Frag} {W : List Addr} {H : Hp} : ∀ {xs : List PyData} {vs : List V} {F : List Addr}, Owns K W H vs (xs.map .d) F → F = [] ∧ RA K (fz W H) vs xs
  | [], _, _, h => by cases h; exact ⟨rfl, .nil⟩
  | x :: xs, _, _, h => by
    cases h with
    | cons h1 h2 =>
      cases h1 with
      | d r =>
        obtain ⟨rfl, h3⟩ := Owns.toRA h2
        exact ⟨rfl, .cons r h3⟩
section
variable {X : Cx} {E E' : List Sl} {e : Expr} {x : PyData} {xs : List PyData} {t : OT} {b : Bool}
theorem flat_back {K : PySem.W.Frag} {L L' M : List Addr} {H H' : Hp} (s : Same H H') (h1 : ∀ a ∈ L', a ∈ L) (h2 : ∀ a ∈ L, a ∉ L' → ∃ xs, H a = some (.lst xs)) : ∀ a o, a ∉ L' ++ M → H' a = some o → a ∉ L ++ M ∨ ∃ xs, o = .lst xs := fun a o n q => by
  by_cases z : a ∈ L
  · obtain ⟨xs, e⟩ := h2 a z fun m => n (List.mem_append_left _ m)
    rw [s _ _ e] at q
    exact .inr ⟨xs, (Option.some.inj q).symm⟩
  · exact .inl fun m => (List.mem_append.mp m).elim z fun m => n (List.mem_append_right _ m)
/-- what is read off an own list, where no list comes out -/
theorem de_borrow (i : Nat) (g : E[i]? = some (.o t)) (hE : E.set i (.o (.d t.dat)) = E') (h : DE X E' e x) (hf : flat x = true) : DE X E e x := by
  obtain ⟨te, e1, e2⟩ := h
  subst hE
  refine ⟨te, e1, fun M L H σ Q I k => ?_⟩
  obtain ⟨L', I', _, h1, h2⟩ := I.freeze g
  exact e2 M L' H σ Q I' fun v H' s r => k v H' s (R.flat (flat_back (K := X.K) s h1 h2) _ _ hf r)
theorem dt_borrow (i : Nat) (g : E[i]? = some (.o t)) (hE : E.set i (.o (.d t.dat)) = E') (h : DT X E' e b) : DT X E e b := by
  obtain ⟨te, e1, e2⟩ := h
  subst hE
  refine ⟨te, e1, fun M L H σ Q I k => ?_⟩
  obtain ⟨L', I', _, h1, h2⟩ := I.freeze g
  exact e2 M L' H σ Q I' fun H' s => k H' s
theorem dn_borrow (i : Nat) (g : E[i]? = some (.o t)) (hE : E.set i (.o (.d t.dat)) = E') (h : DN X E' e (.l (xs.map .d))) (hf : flats xs = true) : DN X E e (.l (xs.map .d)) := by
  obtain ⟨te, e1, e2⟩ := h
  subst hE
  refine ⟨te, e1, fun M L H σ Q I k => ?_⟩
  obtain ⟨L', I', _, h1, h2⟩ := I.freeze g
  refine e2 M L' H σ Q I' fun v H' F s nF hF o => k v H' F s nF hF ?_
  cases o with
  | @l p vs _ G hp hl ho =>
    obtain ⟨rfl, r⟩ := Owns.toRA ho
    refine .l (List.mem_append_left _ List.mem_cons_self) hl (Owns.ofRA (RA.flat (fun a o n q => ?_) _ _ hf r))
    have n1 : a ∉ [p] := fun z => n (List.mem_append_left _ z)
    have n2 : a ∉ L' ++ M := fun z => n (List.mem_append_right _ z)
    rcases flat_back (K := X.K) s h1 h2 a o n2 q with z | z
    · exact .inl fun m => (List.mem_append.mp m).elim n1 z
    · exact .inr z
end
section
variable {X : Cx} {W : WX} {sts : List Stmt} {E : List Sl} {P : Out → Prop} {e : Expr} {x : PyData} {b : Bool} {α β : Type} {f : α → PyData} {g : β → PyData} {xs : List α} {ys : List β}
theorem de_borrowL (i : Nat) (hg : E[i]? = some (.o (oL f xs))) (h : DE X (E.set i (.o (.d (eL f xs)))) e x) (hf : flat x = true := by rfl) : DE X E e x := de_borrow i hg (by rw [dat_oL]) h hf
theorem dt_borrowL (i : Nat) (hg : E[i]? = some (.o (oL f xs))) (h : DT X (E.set i (.o (.d (eL f xs)))) e b) : DT X E e b := dt_borrow i hg (by rw [dat_oL]) h
theorem flats_map (h : ∀ y, flat (g y) = true) : ∀ ys : List β, flats (ys.map g) = true
  | [] => rfl
  | y :: ys => by
    show (flat (g y) && flats (ys.map g)) = true
    rw [h y, flats_map h ys]
    rfl
theorem dn_borrowL (i : Nat) (hg : E[i]? = some (.o (oL f xs))) (h : DN X (E.set i (.o (.d (eL f xs)))) e (oL g ys)) (hf : ∀ y, flat (g y) = true := by intro _; rfl) : DN X E e (oL g ys) := dn_borrow i hg (by rw [dat_oL]) h (flats_map hf ys)
theorem ds_freezeL (i : Nat) {E' : List Sl} (hg : E[i]? = some (.o (oL f xs))) (hE : E.set i (.o (.d (eL f xs))) = E') (h : DSs X W sts E' P) : DSs X W sts E P := ds_freeze i hg (by rw [dat_oL]; exact hE) h
end
end D

end

section
set_option Elab.async false
set_option linter.all false
set_option autoImplicit false
set_option maxRecDepth 100000
set_option maxHeartbeats 2000000
namespace D
open PySem L2 PySem.Spec PyProof.Rows

theorem oL_snoc {α : Type} {f : α → PyData} {xs : List α} {v : α} : oL f (xs ++ [v]) = .l ((xs.map f).map .d ++ [.d (f v)]) := by
  show OT.l _ = OT.l _
  congr 1
  simp
/-! ### places of own lists -/
theorem Owns.setD {K : PySem.W.Frag} {W : List Addr} {H : Hp} {v : V} {x : PyData} (r : R K (fz W H) v x) : ∀ {ts : List OT} {vs : List V} {F : List Addr} (j : Nat), Owns K W H vs ts F → F.Nodup → ∃ G, Owns K W H (vs.set j v) (ts.set j (.d x)) G ∧ G.Nodup ∧ ∀ a ∈ G, a ∈ F
  | [], _, _, j, h, n => by cases h; exact ⟨[], .nil, n, fun a ha => ha⟩
  | t :: ts, _, _, 0, h, n => by
    cases h with
    | cons h1 h2 => exact ⟨_, .cons (.d r) h2, by simpa using (List.nodup_append.mp n).2.1, fun a ha => List.mem_append_right _ (by simpa using ha)⟩
  | t :: ts, _, _, j + 1, h, n => by
    cases h with
    | cons h1 h2 =>
      obtain ⟨n1, n2, n3⟩ := List.nodup_append.mp n
      obtain ⟨G, g1, g2, g3⟩ := Owns.setD r j h2 n2
      exact ⟨_, .cons h1 g1, List.nodup_append.mpr ⟨n1, g2, fun a ha b hb e => n3 a ha b (g3 b hb) e⟩, fun a ha => (List.mem_append.mp ha).elim (fun q => List.mem_append_left _ q) fun q => List.mem_append_right _ (g3 a q)⟩
theorem Owns.front {K : PySem.W.Frag} {W : List Addr} {H : Hp} : ∀ {ts : List OT} {vs : List V} {F : List Addr}, Owns K W H vs ts F → F.Nodup → ∃ G, Owns K W H vs.dropLast ts.dropLast G ∧ G.Nodup ∧ ∀ a ∈ G, a ∈ F
  | [], _, _, h, n => by cases h; exact ⟨[], .nil, n, fun a ha => ha⟩
  | [t], _, _, h, n => by
    cases h with
    | cons h1 h2 => cases h2; exact ⟨[], .nil, List.nodup_nil, fun a ha => by cases ha⟩
  | t :: u :: ts, _, _, h, n => by
    cases h with
    | cons h1 h2 =>
      obtain ⟨n1, n2, n3⟩ := List.nodup_append.mp n
      obtain ⟨G, g1, g2, g3⟩ := Owns.front h2 n2
      cases h2 with
      | cons h3 h4 => exact ⟨_, .cons h1 g1, List.nodup_append.mpr ⟨n1, g2, fun a ha b hb e => n3 a ha b (g3 b hb) e⟩, fun a ha => (List.mem_append.mp ha).elim (fun q => List.mem_append_left _ q) fun q => List.mem_append_right _ (g3 a q)⟩
/-- the place that i means among n -/
def ixD (n : Nat) (i : Int) : Nat := (ixN n i).getD 0
theorem ixN_ok {n : Nat} {i : Int} (h : inR n i) : ixN n i = some (ixD n i) := by
  unfold ixD ixN
  obtain ⟨h1, h2⟩ := h
  by_cases h0 : 0 ≤ i
  · rw [if_pos h0, if_pos h2]; rfl
  · rw [if_neg h0, if_pos h1]; rfl
theorem ixD_nat {n : Nat} {i : Int} (h0 : 0 ≤ i) (h : i < n) : ixD n i = i.toNat := by
  unfold ixD ixN
  rw [if_pos h0, if_pos h]
  rfl
/-- xs with v at i -/
def sx {α : Type} (xs : List α) (i : Int) (v : α) : List α := xs.set (ixD xs.length i) v
theorem sx_len {α : Type} {xs : List α} {i : Int} {v : α} : (sx xs i v).length = xs.length := List.length_set ..
section
variable {X : Cx} {W : WX} {st : Stmt} {sts rest bod : List Stmt} {E E' : List Sl} {P P' : Out → Prop} {e a b c : Expr} {es : List Expr} {x y z : PyData} {pos : Pos} {t : OT} {p : Bool} {α β : Type} {f : α → PyData} {g : β → PyData} {xs : List α} {i j : Int}
/-- xs.append(e), the items of one kind -/
theorem ds_appendL {k : Nat} {v : α} {nx : Str} {ap cp np : Pos} (hv : ∀ pos, PE X (.Name nx pos) (tVar k)) (he : DE X E e (f v)) (hg : E[k]? = some (.o (oL f xs))) (hl : xs.length < sizeLine) (hE : E.set k (.o (oL f (xs ++ [v]))) = E' := by rfl)
    (hbase : attributeBase (.Name nx np) "append" X.env (eval (.Name nx np) X.env) = eval (.Name nx np) X.env := by rfl)
    (hfew : ((backTo cp (starEach [e] X.env)).all (fun x => !x.1) && (backToKw cp (keywordEach [] X.env)).all (fun x => x.1.isSome) && decide ([e].length + ([] : List Keyword).length + (if ([] : List Keyword).isEmpty then 0 else 1) < 30)) = true := by rfl)
    (hline : (ap.endLine == cp.line) = true := by rfl) (hs : starEach [e] X.env = (false, eval e X.env) :: starEach [] X.env := by rfl) (hplain : (backTo cp (starEach [] X.env)).any (·.1) = false := by rfl)
    (hsw : swapsWith (.Call (.Attribute (.Name nx np) "append" ap) [e] [] cp) none pos.line X.env = pure false := by rfl) :
    DS X W (.Expr (.Call (.Attribute (.Name nx np) "append" ap) [e] [] cp) pos) E (th (· = E') P) :=
  ds_append hv he hg (by simpa using hl) (by rw [← hE, oL_snoc]) hbase hfew hline hs hplain hsw
/-- xs[i] = e -/
theorem ds_setix {k : Nat} {v : α} {nx : Str} {np sp : Pos} (hv : ∀ pos, PE X (.Name nx pos) (tVar k)) (he : DE X E e (f v)) (hi : DE X E b (.int i)) (hg : E[k]? = some (.o (oL f xs))) (h : inR xs.length i) (hE : E.set k (.o (oL f (sx xs i v))) = E' := by rfl)
    (ha : ∀ v, assign (.Subscript (.Name nx np) b sp) X.env v = (do
      let ov ← holding [v] (eval (.Name nx np) X.env)
      let iv ← holding [v, ov] (eval b X.env)
      standAt sp
      holding [v, ov, iv] (setItem ov iv v)
      release [v, ov, iv] []) := by intro _; rfl)
    (hs : swapsWithSole [.Subscript (.Name nx np) b sp] e pos.line X.env = pure false := by rfl) (hw : swappedStores [.Subscript (.Name nx np) b sp] e X.env = pure none := by rfl) (h1 : (assignEach [.Subscript (.Name nx np) b sp] X.env).map (·.2) = [assign (.Subscript (.Name nx np) b sp) X.env] := by rfl) :
    DS X W (.Assign [.Subscript (.Name nx np) b sp] e pos) E (th (· = E') P) := by
  obtain ⟨te, e1, e2⟩ := he
  obtain ⟨ti, i1, i2⟩ := hi
  refine ⟨fun M L H σ D I kk => ⟨_, ps_asg e1 (pg_sub (hv _) i1 set_list ha) hs hw h1, e2 M L H σ _ I fun w H1 s1 r1 => ?_⟩⟩
  have I1 := I.same s1
  obtain ⟨p, vs, G, q1, q2, q3, _⟩ := I1.mut hg
  refine ⟨.ref p, q1, i2 M L H1 σ _ I1 fun u H2 s2 r2 => ?_⟩
  cases r2
  have I2 := I1.same s2
  obtain ⟨p', vs', G', q1', q2', q3', q4', q5', q6'⟩ := I2.mut hg
  have ep : p = p' := by
    have z := q1.symm.trans q1'
    injection z with z
    injection z with z
    injection z
  subst ep
  obtain ⟨G2, g1, g2, g3⟩ := q3'.setD (R.same (fz_same s2) _ _ r1) (ixD xs.length i) q4'
  have hl : vs'.length = xs.length := by rw [q3'.length]; simp
  obtain ⟨w1, w2⟩ := q6' _ _ G2 g1 g2 g3
  refine ⟨p, vs', i, ixD xs.length i, rfl, rfl, q2', by rw [hl]; exact ixN_ok h, kk.nx E' L _ σ rfl (((Step.same s1).trans (Step.same s2)).trans w2) ?_⟩
  rw [← hE]
  have e : oL f (sx xs i v) = .l (((xs.map f).map .d).set (ixD xs.length i) (.d (f v))) := by
    show OT.l _ = OT.l _
    congr 1
    unfold sx
    rw [List.map_set, List.map_set]
  rw [e]
  exact w1
/-- the read of an own list's place, by values -/
theorem get_list {X : Cx} : PGet X (rIxL X.K) := by
  intro pins s σ H x y v u Q I rx ry h
  obtain ⟨p, xs, i, z, rfl, rfl, hq, he, q⟩ := h
  cases rx
  obtain ⟨t, rfl⟩ := ry
  obtain ⟨its, r, pl, hz⟩ := I.list hq
  obtain ⟨j, h1, h2, h3, h4, h5⟩ := atI_get he
  obtain ⟨w, hw, rw'⟩ := r.get h2
  have hl := r.length
  have fin : EP X pins σ Q w s := ⟨z, H, I, rw', q⟩
  have hn := line63
  by_cases h0 : 0 ≤ i
  · have hj : i.toNat = j := by
      rw [seqIndex_of h0 h5] at h1
      exact Option.some.inj h1
    exact wpAny_getItem_list pl.isList h0 (by omega) (by rw [hj]; simpa using hw) fin
  · have hj : (i + (its.toArray.size : Int)).toNat = j := by
      rw [seqIndex_neg (by omega) h4] at h1
      rw [List.size_toArray, ← hl]
      exact Option.some.inj h1
    exact wpAny_getItem_list_neg pl.isList (by omega) (by rw [List.size_toArray] <;> omega) (by omega) (by rw [hj]; simpa using hw) fin
theorem Owns.atD {K : PySem.W.Frag} {W : List Addr} {H : Hp} {vs : List V} {F : List Addr} {xs : List PyData} {i : Int} {x : PyData} (h : Owns K W H vs (xs.map .d) F) (e : atI xs i = some x) : ∃ v, atI vs i = some v ∧ R K (fz W H) v x := by
  obtain ⟨v, G, h1, h2, _⟩ := h.at (at_map e)
  cases h2 with
  | d r => exact ⟨v, h1, r⟩
/-- xs[i] += e, xs[i] -= e, whole numbers -/
theorem ds_augix {op : Operator} {fo : Int → Int → Int} (ho : PIp X op (ipI fo)) {k : Nat} {v : Int} {ns : List Int} {nx : Str} {np sp : Pos} (hv : ∀ pos, PE X (.Name nx pos) (tVar k)) (he : DE X E e (.int v)) (hi : DE X E b (.int i)) (hg : E[k]? = some (.o (oL .int ns))) (h : inR ns.length i) (hE : E.set k (.o (oL .int (sx ns i (fo (gx ns i) v)))) = E' := by rfl)
    (ha : ∀ ov iv new, augStore b ov iv new = (do holding [new, ov, iv] (setItem ov iv new); release [new, ov, iv] []; pure .next) := by intros; rfl) :
    DS X W (.AugAssign (.Subscript (.Name nx np) b sp) op e pos) E (th (· = E') P) := by
  obtain ⟨te, e1, e2⟩ := he
  obtain ⟨ti, i1, i2⟩ := hi
  refine ⟨fun M L H σ D I kk => ⟨_, ps_augS (hv _) i1 get_list e1 ho set_list ha, ?_⟩⟩
  obtain ⟨p, vs, G, q1, q2, q3, _⟩ := I.mut hg
  refine ⟨.ref p, q1, i2 M L H σ _ I fun u H2 s2 r2 => ?_⟩
  cases r2
  have I2 := I.same s2
  have q3' := q3.same s2
  obtain ⟨w, w1, w2⟩ := Owns.atD q3' (at_map (f := PyData.int) (at_gx h))
  cases w2
  refine ⟨p, vs, i, _, rfl, rfl, .inl (.inl (s2 _ _ q2)), w1, e2 M L H2 σ _ I2 fun u H3 s3 r3 => ?_⟩
  cases r3
  refine ⟨_, _, rfl, rfl, ?_⟩
  have I3 := I2.same s3
  obtain ⟨p', vs', G', q1', q2', q3', q4', q5', q6'⟩ := I3.mut hg
  have ep : p = p' := by
    have z := q1.symm.trans q1'
    injection z with z
    injection z with z
    injection z
  subst ep
  obtain ⟨G2, g1, g2, g3⟩ := q3'.setD (R.int (fo (gx ns i) v)) (ixD ns.length i) q4'
  have hl : vs'.length = ns.length := by rw [q3'.length]; simp
  obtain ⟨m1, m2⟩ := q6' _ _ G2 g1 g2 g3
  refine ⟨p, vs', i, ixD ns.length i, rfl, rfl, q2', by rw [hl]; exact ixN_ok h, kk.nx E' L _ σ rfl (((Step.same s2).trans (Step.same s3)).trans m2) ?_⟩
  rw [← hE]
  have e : oL .int (sx ns i (fo (gx ns i) v)) = .l (((ns.map PyData.int).map .d).set (ixD ns.length i) (.d (.int (fo (gx ns i) v)))) := by
    show OT.l _ = OT.l _
    congr 1
    unfold sx
    rw [List.map_set, List.map_set]
  rw [e]
  exact m1
/-- x += e -/
theorem ds_aug {op : Operator} {fo : Int → Int → Int} (ho : PIp X op (ipI fo)) {k : Nat} {u v : Int} {n : Str} {p2 : Pos} (N : LocN X k n) (he : DE X E e (.int v)) (hg : E[k]? = some (.o (.d (.int u)))) (hE : E.set k (.o (.d (.int (fo u v)))) = E' := by rfl) (hi : Nat.ble (k + 1) E.length = true := by rfl) :
    DS X W (.AugAssign (.Name n p2) op e pos) E (th (· = E') P) := by
  obtain ⟨te, e1, e2⟩ := he
  refine ⟨fun M L H σ D I kk => ⟨_, L2.ps_aug N.nd N.ix N.loc e1 ho N.fn, ?_⟩⟩
  obtain ⟨w, w1, w2⟩ := I.getD hg
  cases w2
  refine ⟨_, w1, e2 M L H σ _ I fun z H1 s1 r1 => ?_⟩
  cases r1
  exact ⟨_, _, rfl, rfl, kk.nx E' L H1 _ rfl (Step.same s1) (hE ▸ (I.same s1).setD (Nat.le_of_ble_eq_true hi) (.int _))⟩
/-- target = xs.pop() -/
theorem ds_pop {k : Nat} {v : α} {nx : Str} {ap cp np : Pos} {tg : Expr} {ft : PyData → List Sl → Option (List Sl)} {sl : List Nat} (hv : ∀ pos, PE X (.Name nx pos) (tVar k)) (T : TgR X tg ft sl) (hg : E[k]? = some (.o (oL f (xs ++ [v])))) (hE : ft (f v) (E.set k (.o (oL f xs))) = some E' := by rfl)
    (hbase : attributeBase (.Name nx np) "pop" X.env (eval (.Name nx np) X.env) = eval (.Name nx np) X.env := by rfl) (hline : (ap.endLine == cp.line) = true := by rfl)
    (hs : swapsWithSole [tg] (.Call (.Attribute (.Name nx np) "pop" ap) [] [] cp) pos.line X.env = pure false := by rfl) (hw : swappedStores [tg] (.Call (.Attribute (.Name nx np) "pop" ap) [] [] cp) X.env = pure none := by rfl) (h1 : (assignEach [tg] X.env).map (·.2) = [assign tg X.env] := by rfl) :
    DS X W (.Assign [tg] (.Call (.Attribute (.Name nx np) "pop" ap) [] [] cp) pos) E (th (· = E') P) := by
  obtain ⟨g, g1, g2⟩ := T
  refine ⟨fun M L H σ D I kk => ⟨_, ps_asg (pe_bm0 PySem.F.plainAttrs_list PySem.F.slot_list_pop PySem.F.type_list_pop mt_pop (hv _) hbase hline) g1 hs hw h1, ?_⟩⟩
  obtain ⟨p, vs, G, q1, q2, q3, q4, q5, q6⟩ := I.mut hg
  have hl : vs.length = xs.length + 1 := by rw [q3.length]; simp
  have e0 : ((xs ++ [v]).map f).map OT.d = ((xs.map f).map OT.d) ++ [OT.d (f v)] := by simp
  obtain ⟨w, w1, w2⟩ := Owns.atD (xs := (xs ++ [v]).map f) (i := (xs.length : Int)) (x := f v) q3 (at_nat (by simp))
  have hw : vs[vs.length - 1]? = some w := by
    have := atI_nat (xs := vs) (j := xs.length) (v := vs[xs.length]'(by omega)) (by simp)
    rw [this] at w1
    rw [hl]
    show vs[xs.length]? = some w
    rw [List.getElem?_eq_getElem (by omega)]
    exact w1
  obtain ⟨G2, o1, o2, o3⟩ := q3.front q4
  obtain ⟨m1, m2⟩ := q6 _ _ G2 o1 o2 o3
  have e2 : (((xs ++ [v]).map f).map OT.d).dropLast = (xs.map f).map OT.d := by rw [e0, List.dropLast_concat]
  rw [e2] at m1
  refine ⟨.ref p, q1, .inl ⟨rfl, vs, .inl (.inl q2)⟩, p, vs, w, rfl, rfl, q2, hw, g2 M L _ σ w (f v) _ E' _ m1 ?_ hE fun σ' J _ => kk.nx E' L _ σ' rfl m2 J⟩
  rw [fz_upd (List.mem_append_left _ q5)]
  exact w2
/-- xs.clear() -/
theorem ds_clear {k : Nat} {nx : Str} {ap cp np : Pos} (hv : ∀ pos, PE X (.Name nx pos) (tVar k)) (hg : E[k]? = some (.o (oL f xs))) (hE : E.set k (.o (oL f [])) = E' := by rfl)
    (hbase : attributeBase (.Name nx np) "clear" X.env (eval (.Name nx np) X.env) = eval (.Name nx np) X.env := by rfl) (hline : (ap.endLine == cp.line) = true := by rfl)
    (hsw : swapsWith (.Call (.Attribute (.Name nx np) "clear" ap) [] [] cp) none pos.line X.env = pure false := by rfl) :
    DS X W (.Expr (.Call (.Attribute (.Name nx np) "clear" ap) [] [] cp) pos) E (th (· = E') P) := by
  refine ⟨fun M L H σ D I kk => ⟨_, ps_expr (pe_bm0 PySem.F.plainAttrs_list PySem.F.slot_list_clear PySem.F.type_list_clear mt_clear (hv _) hbase hline) hsw, ?_⟩⟩
  obtain ⟨p, vs, G, q1, q2, q3, q4, q5, q6⟩ := I.mut hg
  obtain ⟨m1, m2⟩ := q6 [] [] [] .nil List.nodup_nil (fun a ha => by cases ha)
  exact ⟨.ref p, q1, .inl ⟨rfl, vs, .inl (.inl q2)⟩, p, vs, rfl, rfl, q2, kk.nx E' L _ σ rfl m2 (hE ▸ m1)⟩
/-- sum(xs) -/
theorem de_sum {nm : Pos} {ns : List Int} (hc : X.calm = true) (ha : DE X E a (eL .int ns)) (hg : Gl X "sum") (hm : X.mg "sum" = none) (hs : starEach [a] X.env = (false, eval a X.env) :: starEach [] X.env := by rfl) : DE X E (.Call (.Name "sum" nm) [a] [] pos) (.int ns.sum) := by
  obtain ⟨ta, a1, a2⟩ := ha
  refine ⟨_, pe_callB (cr_sum hc) hg hm (by decide +kernel) (pa_cons a1 pa_nil hs) (he := hs), fun M L H σ Q I k => a2 M L H σ _ I fun v H1 s1 r1 => ?_⟩
  cases r1 with
  | lst h1 h2 =>
    have e := RA.ofInts h2
    subst e
    exact ⟨_, ns, rfl, fz_sub.seq h1, k _ H1 s1 (.int _)⟩
theorem de_any {nm : Pos} {bs : List Bool} (hc : X.calm = true) (ha : DE X E a (eL .bool bs)) (hg : Gl X "any") (hm : X.mg "any" = none) (hs : starEach [a] X.env = (false, eval a X.env) :: starEach [] X.env := by rfl) : DE X E (.Call (.Name "any" nm) [a] [] pos) (.bool (bs.any id)) := by
  obtain ⟨ta, a1, a2⟩ := ha
  refine ⟨_, pe_callB (cr_any hc) hg hm (by decide +kernel) (pa_cons a1 pa_nil hs) (he := hs), fun M L H σ Q I k => a2 M L H σ _ I fun v H1 s1 r1 => ?_⟩
  cases r1 with
  | lst h1 h2 =>
    have e : ∀ {bs : List Bool} {vs : List V}, RA X.K (fz (L ++ M) H1) vs (bs.map PyData.bool) → vs = bs.map V.bl := by
      intro bs
      induction bs with
      | nil => intro vs r; cases r; rfl
      | cons b bs ih => intro vs r; cases r with | cons r1 r2 => cases r1; rw [ih r2]; rfl
    have e := e h2
    subst e
    exact ⟨_, bs, rfl, fz_sub.seq h1, k _ H1 s1 (.bl _)⟩
/-- x in xs, x not in xs: whole numbers -/
theorem flat_ints : ∀ ns : List Int, (ns.map V.int).all flatV = true
  | [] => rfl
  | n :: ns => by
    show (flatV (V.int n) && (ns.map V.int).all flatV) = true
    rw [flat_ints ns]
    rfl
theorem inV_int (n : Int) : ∀ ns : List Int, inV (V.int n) (ns.map V.int) = decide (n ∈ ns)
  | [] => rfl
  | m :: ns => by
    have ih := inV_int n ns
    have e : inV (V.int n) ((m :: ns).map V.int) = (eqV (V.int m) (V.int n) || inV (V.int n) (ns.map V.int)) := rfl
    rw [e, ih]
    show ((m == n) || decide (n ∈ ns)) = decide (n ∈ m :: ns)
    by_cases h : m = n
    · subst h; simp
    · have h' : ¬ n = m := fun z => h z.symm
      simp [h, h']
theorem rIn_ok {neg : Bool} {n : Int} {ns : List Int} {M L : List Addr} {H : Hp} {v w : V} {Q : VK} (r1 : R X.K (fz (L ++ M) H) v (.int n)) (r2 : R X.K (fz (L ++ M) H) w (eL .int ns)) (k : ∀ u H', Same H H' → R X.K (fz (L ++ M) H') u (.bool (if neg then !decide (n ∈ ns) else decide (n ∈ ns))) → Q u H') : rIn X.K neg v w H Q := by
  cases r1
  cases r2 with
  | lst h1 h2 =>
    have e := RA.ofInts h2
    subst e
    exact ⟨_, _, rfl, .inl (fz_sub.seq h1), rfl, flat_ints ns, k _ H (Same.refl H) (by rw [inV_int]; exact .bl _)⟩
theorem de_inI {n : Int} {ns : List Int} (ha : DE X E a (.int n)) (hb : DE X E b (eL .int ns)) (hmk : behindInMarks .In b = false := by rfl) : DE X E (.Compare a [.In] [b] pos) (.bool (decide (n ∈ ns))) := de_cmp op_in_seq ha hb (fun M L H σ v w Q I r1 r2 k => rIn_ok (neg := false) r1 r2 k) hmk
theorem dt_inI {n : Int} {ns : List Int} (ha : DE X E a (.int n)) (hb : DE X E b (eL .int ns)) (hmk : behindInMarks .In b = false := by rfl) : DT X E (.Compare a [.In] [b] pos) (decide (n ∈ ns)) := dt_cmp op_in_seq ha hb (fun M L H σ v w Q I r1 r2 k => rIn_ok (neg := false) r1 r2 k) hmk
theorem dt_niI {n : Int} {ns : List Int} (ha : DE X E a (.int n)) (hb : DE X E b (eL .int ns)) (hmk : behindInMarks .NotIn b = false := by rfl) : DT X E (.Compare a [.NotIn] [b] pos) (!decide (n ∈ ns)) := dt_cmp op_notIn_seq ha hb (fun M L H σ v w Q I r1 r2 k => rIn_ok (neg := true) r1 r2 k) hmk
end
/-! ### a def that stands in the module -/
section
variable (P : Program) (w : World) (K : PySem.W.Frag) (mg : Str → Option Value) (base : Heap)
structure Cal (f : Str) (n : Nat) (Rf : List PyData → Res → Prop) (k : Nat) : Prop where
  ex : ∃ (g : Addr) (fd : FuncData) (ps : List Str), FnOk P w K mg base (L2.CX P w) k g fd ps (spD K n Rf) ∧ mg f = some (.ref g) ∧ PySem.W.keepIn K (.ref g) = true ∧ Binds K fd ps []
structure Def (f : Str) (st : Stmt) (ps : List Str) : Prop where
  ex : ∃ (g : Addr) (fd : FuncData), Fun K f f st g fd ∧ mg f = some (.ref g) ∧ Binds K fd ps []
end
theorem Cal.at {X : Cx} {f : Str} {n k j : Nat} {Rf : List PyData → Res → Prop} (c : Cal X.prog X.w X.K X.mg X.base f n Rf k) (hr : Room j X.A) (h : Nat.ble k j = true := by rfl) : FnD X f n Rf := by
  obtain ⟨g, fd, ps, h1, h2, h3, h4⟩ := c.ex
  exact ⟨g, fd, ps, k, h1, hr.mono (Nat.le_of_ble_eq_true h), h2, h3, h4⟩
/-- THE RULE for a def of the module -/
theorem cal_ok {P : Program} {w : World} {K : PySem.W.Frag} {mg : Str → Option Value} {base : Heap} {f : Str} {st : Stmt} {N ps : List Str} {k n : Nat} {Rf : List PyData → Res → Prop} (F : Def K mg f st ps) (S : FnScope N ps (defScope st)) (hn : ps.length = n)
    (hbody : ∀ (g : Addr) (cdv : Value) (A : Around) (outer : List Env) (s : Shared) (H : Hp) (E : XK) (X : Cx), X = cxOf (L2.CX P w) P w K mg base N f (defScope st) g cdv A outer s H E → CxF X (wF E) → Room k X.A → ∀ xs r, xs.length = n → Rf xs r → DSs X (wF E) (defBody st) (entry N.length xs) (fin r)) :
    Cal P w K mg base f n Rf (k + 1) := by
  obtain ⟨g, fd, h1, h2, h3⟩ := F.ex
  exact ⟨g, fd, ps, fn_ok h1 S hn (fun cdv A outer s H E X => hbody g cdv A outer s H E X), h2, h1.kp, h3⟩
end D

end

section
set_option Elab.async false
set_option linter.all false
set_option autoImplicit false
set_option maxRecDepth 100000
set_option maxHeartbeats 2000000
namespace D
open PySem L2 PySem.Spec PyProof.Rows
abbrev eA : PyData → PyData := fun x => x
def goM {σ ρ β : Type} (g : Go σ ρ) (f : ρ → β) (k : σ → β) : β := match g with
  | .rt r => f r
  | .nx s => k s
  | .bk s => k s
def goN {σ β : Type} (g : Go σ Empty) (k : σ → β) : β := match g with
  | .rt r => r.elim
  | .nx s => k s
  | .bk s => k s
/-- what a def that may raise comes to -/
def resX {α : Type} (A : Nat → Addr) (f : α → PyData) : Except Nat α → Res
  | .ok v => .ok (.d (f v))
  | .error n => .ex (A n) none
/-- the value of a def that did not raise -/
def okv {α : Type} [Inhabited α] : Except Nat α → α
  | .ok v => v
  | .error _ => default
theorem resX_okv {α : Type} [Inhabited α] {A : Nat → Addr} {f : α → PyData} {m : Except Nat α} (h : m = .ok (okv m)) : Res.ok (.d (f (okv m))) = resX A f m := by
  generalize okv m = v at *
  subst h
  rfl
/-- a constant of the module -/
def ConstD (K : PySem.W.Frag) (mg : Str → Option Value) (n : Str) (x : PyData) : Prop := ∃ (v : V) (u : Value), mg n = some u ∧ RelV v u ∧ ∀ H, R K H v x
theorem cdivw {i j : Int} (h : 0 < j) (hb : j < 2 ^ 9000) : CDivW i j := by
  refine ⟨h, PySem.Flt.log2_lt_of (by decide) ?_⟩
  have e : ((j.natAbs : Nat) : Int) = j := by omega
  have e2 : (((2 : Nat) ^ 9000 : Nat) : Int) = (2 : Int) ^ 9000 := by rw [Int.natCast_pow]; rfl
  have : ((j.natAbs : Nat) : Int) < (((2 : Nat) ^ 9000 : Nat) : Int) := by rw [e, e2]; exact hb
  exact Int.ofNat_lt.mp this
section
variable {X : Cx} {W : WX} {st : Stmt} {sts rest bod els : List Stmt} {E E' : List Sl} {P P' : Out → Prop} {e a b c : Expr} {es : List Expr} {x y z : PyData} {pos : Pos} {t : OT} {p q : Bool} {α β : Type} {f : α → PyData} {g : β → PyData} {xs : List α} {i j k : Int}
theorem deC (q : x = y) (h : DE X E e x) : DE X E e y := q ▸ h
theorem dnC {t u : OT} (q : t = u) (h : DN X E e t) : DN X E e u := q ▸ h
theorem de_const {n : Str} (h : ConstD X.K X.mg n x) (hg : Gl X n) (hd : (n == ("__debug__" : Str)) = false := by decide) : DE X E (.Name n pos) x := by
  obtain ⟨v, u, h1, h2, h3⟩ := h
  exact de_glob hg h1 h2 (fun _ _ _ _ _ => h3 _) hd
theorem de_mulA (ha : DE X E a (.int i)) (hb : DE X E b (.int j)) (hc : CMul i j ∨ CMulW i j) : DE X E (.BinOp a .Mult b pos) (.int (i * j)) := by
  rcases hc with h | h
  · exact de_mul ha hb h
  · exact de_mulW ha hb h
theorem de_powL (n : Nat) (ha : DE X E a (.int i)) (hb : DE X E b (.int j)) (hj : j = (n : Int)) (hn : n ≤ 1000000) (hi : i.natAbs < 2 ^ 64) : DE X E (.BinOp a .Pow b pos) (.int (i ^ n)) := by
  subst hj
  exact (de_pow ha hb ⟨by omega, by omega, hi⟩).cast (by rw [Int.toNat_natCast])
/-- a <= b < c -/
theorem ev_chain {r r' : R2} {ta tb tc : TE} (ha : EvE X.K ta E (.int i)) (hb : EvE X.K tb E (.int j)) (hc : EvE X.K tc E (.int k)) {g g' : Int → Int → Bool} (hr : r = rI0 fun i j => .bl (g i j)) (hr' : r' = rI0 fun i j => .bl (g' i j)) : EvE X.K (tChain r r' ta tb tc) E (.bool (g i j && g' j k)) := by
  subst hr hr'
  intro M L H σ Q I kk
  refine ha M L H σ _ I fun v H1 s1 r1 => hb M L H1 σ _ (I.same s1) fun w H2 s2 r2 => ?_
  cases r1
  cases r2
  refine ⟨i, j, rfl, rfl, g i j, rfl, ?_⟩
  cases q : g i j with
  | true =>
    refine iteT (hc M L H2 σ _ (I.same (s1.trans s2)) fun u H3 s3 r3 => ?_)
    cases r3
    exact ⟨j, k, rfl, rfl, kk _ H3 ((s1.trans s2).trans s3) (by rw [q]; exact .bl _)⟩
  | false => exact iteF (kk _ H2 (s1.trans s2) (by rw [q]; exact .bl _))
theorem de_chain_le_lt (ha : DE X E a (.int i)) (hb : DE X E b (.int j)) (hc : DE X E c (.int k)) (hm : lastMarks [.LtE, .Lt] [b, c] = false := by rfl) : DE X E (.Compare a [.LtE, .Lt] [b, c] pos) (.bool (decide (i ≤ j) && decide (j < k))) := by
  obtain ⟨ta, a1, a2⟩ := ha
  obtain ⟨tb, b1, b2⟩ := hb
  obtain ⟨tc, c1, c2⟩ := hc
  exact ⟨_, pe_chain op_le op_lt a1 b1 c1 (hm := hm), ev_chain a2 b2 c2 rfl rfl⟩
theorem isNon_O {f : α → PyData} (hf : ∀ a, isNon (f a) = false) (o : Option α) : isNon (eO f o) = o.isNone := by
  cases o with
  | none => rfl
  | some a => exact hf a
theorem de_isNO {o : Option α} {j p2} (ha : DE X E a (eO f o)) (hf : ∀ a, isNon (f a) = false := by intro _; rfl) : DE X E (.Compare a [.Is] [.Constant .none j p2] pos) (.bool o.isNone) := (de_isN ha).cast (by rw [isNon_O hf])
theorem dt_isNO {o : Option α} {j p2} (ha : DE X E a (eO f o)) (hf : ∀ a, isNon (f a) = false := by intro _; rfl) : DT X E (.Compare a [.Is] [.Constant .none j p2] pos) o.isNone := isNon_O hf o ▸ dt_isN ha
theorem dt_notNO {o : Option α} {j p2} (ha : DE X E a (eO f o)) (hf : ∀ a, isNon (f a) = false := by intro _; rfl) : DT X E (.Compare a [.IsNot] [.Constant .none j p2] pos) (!o.isNone) := isNon_O hf o ▸ dt_notN ha
theorem v_eq_bool : decide (V.bl p = V.bl q) = decide (p = q) := by cases p <;> cases q <;> rfl
theorem de_eqB (ha : DE X E a (.bool p)) (hb : DE X E b (.bool q)) : DE X E (.Compare a [.Eq] [b] pos) (.bool (decide (p = q))) := de_cmp op_eq ha hb (fun M L H σ v w Q I r1 r2 k => by cases r1; cases r2; exact ⟨rfl, k _ H (Same.refl H) (by rw [v_eq_bool]; exact .bl _)⟩) (nomark _)
theorem dt_eqB (ha : DE X E a (.bool p)) (hb : DE X E b (.bool q)) : DT X E (.Compare a [.Eq] [b] pos) (decide (p = q)) := dt_cmp op_eq ha hb (fun M L H σ v w Q I r1 r2 k => by cases r1; cases r2; exact ⟨rfl, k _ H (Same.refl H) (by rw [v_eq_bool]; exact .bl _)⟩) (nomark _)
theorem dt_neB (ha : DE X E a (.bool p)) (hb : DE X E b (.bool q)) : DT X E (.Compare a [.NotEq] [b] pos) (!decide (p = q)) := dt_cmp op_ne ha hb (fun M L H σ v w Q I r1 r2 k => by cases r1; cases r2; exact ⟨rfl, k _ H (Same.refl H) (by rw [v_eq_bool]; exact .bl _)⟩) (nomark _)
/-- both ways go on; names that one of them sets may be forgotten -/
theorem ds_ifl (hc : DT X E c p) (ha : p = true → DSs X W bod E (th (fun E1 => Le E1 E') P)) (hb : p = false → DSs X W els E (th (fun E1 => Le E1 E') P)) (hr : DSs X W rest E' P) : DSs X W (.If c bod els pos :: rest) E P :=
  ds_seq (ds_if hc ha hb) fun E1 l => ds_le l hr
/-- neither way goes on -/
theorem ds_deadrest (h : DS X W st E (th (fun _ => False) P)) : DSs X W (st :: rest) E P := ds_seq h fun _ z => z.elim
end
theorem fnil_len : ∀ xs E E', fNil xs E = some E' → xs.length = 0
  | [], _, _, _ => rfl
  | x :: xs, _, _, h => by cases h
theorem fcons_len {f : PyData → List Sl → Option (List Sl)} {g : List PyData → List Sl → Option (List Sl)} {n : Nat} (hg : ∀ xs E E', g xs E = some E' → xs.length = n) : ∀ xs E E', fCons f g xs E = some E' → xs.length = n + 1
  | [], _, _, h => by cases h
  | x :: xs, E, E', h => by
    have h' : (f x E).bind (g xs) = some E' := h
    cases q : f x E with
    | none => rw [q] at h'; cases h'
    | some E1 =>
      rw [q] at h'
      show xs.length + 1 = n + 1
      rw [hg xs E1 E' h']
theorem snoc_of {α : Type} {xs : List α} (h : xs ≠ []) : ∃ (u : List α) (z : α), xs = u ++ [z] := ⟨xs.dropLast, xs.getLast h, (List.dropLast_concat_getLast h).symm⟩
end D

end

section
set_option Elab.async false
set_option linter.all false
set_option autoImplicit false
set_option maxRecDepth 100000
set_option maxHeartbeats 2000000
set_option exponentiation.threshold 20000
namespace D
open PySem L2
/-! ### common parts -/
theorem gcd_mod (a b : Int) (hb : 0 < b) : Int.gcd b (a % b) = Int.gcd a b := by
  rw [Int.gcd_comm b, Int.gcd_comm a]
  first
    | exact Int.gcd_emod ..
    | (rw [Int.emod_def]; simp [Int.gcd_comm])
theorem whileG_gcd {c : Int × Int → Bool} {f : Int × Int → Go (Int × Int) Empty} (hc : ∀ s, c s = !decide (s.2 = 0)) (hf : ∀ s, f s = .nx (s.2, s.1 % s.2)) :
    ∀ (n : Nat) (a b : Int), 0 ≤ b → b.toNat < n → ∃ g, whileG c f n (a, b) = .nx (g, 0) ∧ g.natAbs = Int.gcd a b ∧ (0 ≤ a → 0 ≤ g) ∧ (b ≠ 0 → 0 ≤ g)
  | 0, a, b, h, h' => by omega
  | n + 1, a, b, h, h' => by
    by_cases hb : b = 0
    · subst hb
      refine ⟨a, ?_, by simp, fun q => q, fun q => absurd rfl q⟩
      rw [whileG, hc]
      rfl
    · have h1 := Int.emod_nonneg a hb
      have h2 := Int.emod_lt_of_pos a (show 0 < b by omega)
      obtain ⟨g, e, e2, e3, e4⟩ := whileG_gcd hc hf n b (a % b) h1 (by omega)
      refine ⟨g, ?_, ?_, fun _ => e3 h, fun _ => e3 h⟩
      · rw [whileG, hc, hf]
        show (match (!decide (b = 0)) with | false => _ | true => _) = _
        rw [decide_eq_false hb]
        exact e
      · rw [e2, gcd_mod a b (by omega)]
/-- sizes -/
def Sz (n : Nat) (i : Int) : Prop := i.natAbs < 2 ^ n
theorem Sz.mul {m n : Nat} {i j : Int} (a : Sz m i) (b : Sz n j) : Sz (m + n) (i * j) := L2.wide_lt a b
theorem Sz.mono {m n : Nat} {i : Int} (a : Sz m i) (h : m ≤ n) : Sz n i := Nat.lt_of_lt_of_le a (Nat.pow_le_pow_right (by decide) h)
theorem Sz.add {n : Nat} {i j : Int} (a : Sz n i) (b : Sz n j) : Sz (n + 1) (i + j) := by
  have h := Int.natAbs_add_le i j
  unfold Sz at *
  rw [Nat.pow_succ]
  omega
theorem Sz.sub {n : Nat} {i j : Int} (a : Sz n i) (b : Sz n j) : Sz (n + 1) (i - j) := by
  have h := Int.natAbs_add_le i (-j)
  rw [Int.natAbs_neg] at h
  unfold Sz at *
  rw [Nat.pow_succ, Int.sub_eq_add_neg]
  omega
theorem Sz.of {n : Nat} {i : Int} (h1 : -(2 ^ n : Int) < i) (h2 : i < (2 ^ n : Int)) : Sz n i := by
  unfold Sz
  have e : (((2 ^ n : Nat)) : Int) = (2 : Int) ^ n := by rw [Int.natCast_pow]; rfl
  omega
theorem mulW_of {m n : Nat} {i j : Int} (a : Sz m i) (b : Sz n j) (h0 : 0 < m := by decide) (h1 : 0 < n := by decide) (h : m + n ≤ 1000000 := by decide) : CMulW i j := L2.wide_mul a b h0 h1 h
theorem divZ_of {n : Nat} {i j : Int} (a : Sz n j) (hj : j ≠ 0) (h0 : 0 < n := by decide) (h : n ≤ 9000 := by decide) : CDivZ i j := ⟨hj, Nat.lt_of_lt_of_le (PySem.Flt.log2_lt_of h0 a) h⟩
theorem gcd_sz {n : Nat} {a b : Int} (hb : b ≠ 0) (h : Sz n b) : Sz n (Int.gcd a b : Int) := by
  unfold Sz at *
  have : Int.gcd a b ≤ b.natAbs := Int.gcd_le_natAbs_right _ hb
  omega
/-! ### fractions: the numbers that they are -/
abbrev Fr := Int × Int
/-- a fraction's number -/
def toQ (p : Fr) : Rat := Rat.divInt p.1 p.2
/-- a number's fraction -/
def ofQ (q : Rat) : Fr := (q.num, (q.den : Int))
theorem toQ_ofQ (q : Rat) : toQ (ofQ q) = q := Rat.num_divInt_den q
/-- in lowest terms, bottom above nought -/
def Low (p : Fr) : Prop := 0 < p.2 ∧ Int.gcd p.1 p.2 = 1
theorem low_ofQ (q : Rat) : Low (ofQ q) := ⟨by have := q.den_nz; show (0 : Int) < (q.den : Int); omega, q.reduced⟩
theorem ofQ_toQ {p : Fr} (h : Low p) : ofQ (toQ p) = p := by
  obtain ⟨a, b⟩ := p
  obtain ⟨h1, h2⟩ := h
  unfold ofQ toQ
  simp only at h1 h2 ⊢
  rw [Rat.num_divInt, Rat.den_divInt]
  rw [Int.gcd_comm] at h2
  have hb : b ≠ 0 := by omega
  rw [if_neg hb, h2, Int.sign_eq_one_of_pos h1]
  simp
  omega
theorem toQ_inj {p q : Fr} (hp : Low p) (hq : Low q) (h : toQ p = toQ q) : p = q := by rw [← ofQ_toQ hp, ← ofQ_toQ hq, h]
/-- what lowest tells -/
theorem low_eq {top bottom g s : Int} (hb : bottom ≠ 0) (hg : g = (Int.gcd top bottom : Int)) (hs : s = bif decide (bottom < 0) then 0 - g else g) : (Int.fdiv top s, Int.fdiv bottom s) = ofQ (Rat.divInt top bottom) := by
  unfold ofQ
  rw [Rat.num_divInt, Rat.den_divInt, if_neg hb, Int.gcd_comm bottom top]
  have hg0 : 0 < Int.gcd top bottom := Int.gcd_pos_of_ne_zero_right top hb
  have d1 : (Int.gcd top bottom : Int) ∣ top := Int.gcd_dvd_left top bottom
  have d2 : (Int.gcd top bottom : Int) ∣ bottom := Int.gcd_dvd_right top bottom
  subst hg
  generalize hG : Int.gcd top bottom = G at *
  obtain ⟨x, rfl⟩ := d1
  obtain ⟨y, rfl⟩ := d2
  have hG' : (G : Int) ≠ 0 := by omega
  have hy : y ≠ 0 := fun z => hb (by rw [z, Int.mul_zero])
  by_cases h : (G : Int) * y < 0
  · have yn : y < 0 := by
      rcases Int.lt_trichotomy y 0 with z | z | z
      · exact z
      · exact absurd z hy
      · have := Int.mul_pos (show (0 : Int) < G by omega) z; omega
    rw [decide_eq_true h] at hs
    have hs' : s = -(G : Int) := by rw [hs]; show 0 - (G : Int) = _; omega
    subst hs'
    rw [Int.sign_eq_neg_one_of_neg h]
    have e1 : Int.fdiv ((G : Int) * x) (-(G : Int)) = -x := by
      rw [show (G : Int) * x = (-x) * (-(G : Int)) by rw [Int.neg_mul_neg, Int.mul_comm]]
      exact Int.mul_fdiv_cancel _ (by omega)
    have e2 : Int.fdiv ((G : Int) * y) (-(G : Int)) = -y := by
      rw [show (G : Int) * y = (-y) * (-(G : Int)) by rw [Int.neg_mul_neg, Int.mul_comm]]
      exact Int.mul_fdiv_cancel _ (by omega)
    rw [e1, e2]
    have e3 : -1 * ((G : Int) * x) / (G : Int) = -x := by
      rw [show -1 * ((G : Int) * x) = (-x) * (G : Int) by rw [Int.neg_one_mul, Int.neg_mul, Int.mul_comm]]
      exact Int.mul_ediv_cancel _ hG'
    have e4 : (((G : Int) * y).natAbs / G : Nat) = y.natAbs := by
      rw [Int.natAbs_mul, Int.natAbs_natCast]
      exact Nat.mul_div_cancel_left _ hg0
    rw [e3, e4]
    congr 1
    omega
  · have yp : 0 < y := by
      rcases Int.lt_trichotomy y 0 with z | z | z
      · have := Int.mul_neg_of_pos_of_neg (show (0 : Int) < G by omega) z; omega
      · exact absurd z hy
      · exact z
    rw [decide_eq_false h] at hs
    have hs' : s = (G : Int) := hs
    subst hs'
    have hp : 0 < (G : Int) * y := Int.mul_pos (by omega) yp
    rw [Int.sign_eq_one_of_pos hp]
    have e1 : Int.fdiv ((G : Int) * x) (G : Int) = x := by
      rw [Int.mul_comm]
      exact Int.mul_fdiv_cancel _ hG'
    have e2 : Int.fdiv ((G : Int) * y) (G : Int) = y := by
      rw [Int.mul_comm]
      exact Int.mul_fdiv_cancel _ hG'
    rw [e1, e2]
    have e3 : 1 * ((G : Int) * x) / (G : Int) = x := by
      rw [Int.one_mul, Int.mul_comm]
      exact Int.mul_ediv_cancel _ hG'
    have e4 : (((G : Int) * y).natAbs / G : Nat) = y.natAbs := by
      rw [Int.natAbs_mul, Int.natAbs_natCast]
      exact Nat.mul_div_cancel_left _ hg0
    rw [e3, e4]
    congr 1
    omega
theorem Low.num {p : Fr} (h : Low p) : (toQ p).num = p.1 ∧ ((toQ p).den : Int) = p.2 := by
  have := ofQ_toQ h
  exact ⟨congrArg Prod.fst this, congrArg Prod.snd this⟩
theorem toQ_lt {p q : Fr} (hp : Low p) (hq : Low q) : p.1 * q.2 < q.1 * p.2 ↔ toQ p < toQ q := by
  rw [Rat.lt_iff, hp.num.1, hp.num.2, hq.num.1, hq.num.2]
theorem divInt_div {a b c d : Int} (hb : b ≠ 0) (hd : d ≠ 0) (hc : c ≠ 0) : Rat.divInt (a * d) (b * c) = Rat.divInt a b / Rat.divInt c d := by
  rw [Rat.div_def, Rat.inv_divInt, Rat.divInt_mul_divInt]
/-- a fraction of some size -/
structure FrOk (n : Nat) (p : Fr) : Prop where
  nz : p.2 ≠ 0
  top : Sz n p.1
  bot : Sz n p.2
end D

end

section
set_option Elab.async false
set_option linter.all false
set_option autoImplicit false
set_option maxRecDepth 100000
set_option maxHeartbeats 2000000
set_option exponentiation.threshold 20000
namespace D
open PySem L2
/-- a tuple's length, kept out of the simplifier's sight -/
def tlen (n : Int) : Int := n
section
variable {X : Cx} {E : List Sl} {a : Expr} {pos nm : Pos} {α β γ δ ε : Type} {f : α → PyData} {g : β → PyData} {h : γ → PyData} {k : δ → PyData} {l : ε → PyData}
theorem de_lenT2 {v : α × β} (ha : DE X E a (eP f g v)) (hg : Gl X "len") (hm : X.mg "len" = none) (hs : starEach [a] X.env = (false, eval a X.env) :: starEach [] X.env := by rfl) : DE X E (.Call (.Name "len" nm) [a] [] pos) (.int (tlen 2)) := de_lenT ha hg hm hs
theorem de_lenT3 {v : T3 α β γ} (ha : DE X E a (eT3 f g h v)) (hg : Gl X "len") (hm : X.mg "len" = none) (hs : starEach [a] X.env = (false, eval a X.env) :: starEach [] X.env := by rfl) : DE X E (.Call (.Name "len" nm) [a] [] pos) (.int (tlen 3)) := de_lenT ha hg hm hs
theorem de_lenT4 {v : T4 α β γ δ} (ha : DE X E a (eT4 f g h k v)) (hg : Gl X "len") (hm : X.mg "len" = none) (hs : starEach [a] X.env = (false, eval a X.env) :: starEach [] X.env := by rfl) : DE X E (.Call (.Name "len" nm) [a] [] pos) (.int (tlen 4)) := de_lenT ha hg hm hs
theorem de_lenT5 {v : T5 α β γ δ ε} (ha : DE X E a (eT5 f g h k l v)) (hg : Gl X "len") (hm : X.mg "len" = none) (hs : starEach [a] X.env = (false, eval a X.env) :: starEach [] X.env := by rfl) : DE X E (.Call (.Name "len" nm) [a] [] pos) (.int (tlen 5)) := de_lenT ha hg hm hs
end
/-! ### loops that keep to something -/

theorem get_lt {α : Type} {xs : List α} {i : Nat} {a : α} (h : xs[i]? = some a) : i < xs.length := (List.getElem?_eq_some_iff.mp h).1
theorem forG_inv {σ α ρ : Type} {f : σ → α → Go σ ρ} : ∀ {xs : List α} (I : Nat → σ → Prop) (_ : ∀ i a s, xs[i]? = some a → I i s → ∃ s', f s a = .nx s' ∧ I (i + 1) s') {s : σ} (_ : I 0 s), ∃ s', forG f xs s = .nx s' ∧ I xs.length s'
  | [], I, h, s, h0 => ⟨s, rfl, h0⟩
  | x :: xs, I, h, s, h0 => by
    obtain ⟨s1, e1, i1⟩ := h 0 x s rfl h0
    obtain ⟨s2, e2, i2⟩ := forG_inv (xs := xs) (fun i => I (i + 1)) (fun i a s hx hi => h (i + 1) a s hx hi) i1
    refine ⟨s2, ?_, i2⟩
    unfold forG
    rw [e1]
    exact e2
theorem go_inv {σ ρ : Type} {x : Go σ ρ} {v : σ} {Q : σ → Prop} (h : ∃ s', x = .nx s' ∧ Q s') (e : x = .nx v) : Q v := by
  obtain ⟨s', h1, h2⟩ := h
  rw [e] at h1
  cases h1
  exact h2
theorem goM_nx {σ ρ β : Type} {g : Go σ ρ} {s : σ} {f : ρ → β} {k : σ → β} (h : g = .nx s) : goM g f k = k s := by rw [h]; rfl
theorem goN_nx {σ β : Type} {g : Go σ Empty} {s : σ} {k : σ → β} (h : g = .nx s) : goN g k = k s := by rw [h]; rfl
def NxP {σ ρ : Type} (g : Go σ ρ) (Q : σ → Prop) : Prop := match g with
  | .nx s => Q s
  | _ => False
theorem NxP.ex {σ ρ : Type} {g : Go σ ρ} {Q : σ → Prop} (h : NxP g Q) : ∃ s', g = .nx s' ∧ Q s' := by
  cases g with
  | nx s => exact ⟨s, rfl, h⟩
  | _ => exact h.elim
theorem inR_mod {n : Nat} {i : Int} (h : 0 < n) : inR n (i % (n : Int)) := ⟨by have := Int.emod_nonneg i (show (n : Int) ≠ 0 by omega); omega, Int.emod_lt_of_pos i (by omega)⟩
theorem gx_mem {α : Type} [Inhabited α] {xs : List α} {i : Int} (h : inR xs.length i) : gx xs i ∈ xs := by
  have e := at_gx h
  unfold atI at e
  cases q : ixN xs.length i with
  | none => rw [q] at e; cases e
  | some j => rw [q] at e; exact List.mem_of_getElem? e
/-! ### sizes of fractions -/
theorem FrOk.mono {m n : Nat} {p : Fr} (h : FrOk m p) (k : m ≤ n) : FrOk n p := ⟨h.nz, h.top.mono k, h.bot.mono k⟩
theorem num_le (t b : Int) : (Rat.divInt t b).num.natAbs ≤ t.natAbs := by
  rw [Rat.num_divInt]
  by_cases hb : b = 0
  · subst hb; simp
  · have h : (b.sign * t / (Int.gcd b t : Int)).natAbs ≤ (b.sign * t).natAbs := Int.natAbs_ediv_le_natAbs _ _
    rw [Int.natAbs_mul, Int.natAbs_sign_of_ne_zero hb, Nat.one_mul] at h
    exact h
theorem den_le {t b : Int} (hb : b ≠ 0) : (Rat.divInt t b).den ≤ b.natAbs := by
  rw [Rat.den_divInt, if_neg hb]
  exact Nat.div_le_self _ _
theorem ofQ_ok {n : Nat} {t b : Int} (hb : b ≠ 0) (h1 : Sz n t) (h2 : Sz n b) : FrOk n (ofQ (Rat.divInt t b)) := by
  refine ⟨?_, ?_, ?_⟩
  · have := (Rat.divInt t b).den_nz
    show ((Rat.divInt t b).den : Int) ≠ 0
    omega
  · have := num_le t b
    show Sz n (Rat.divInt t b).num
    unfold Sz at *
    omega
  · have := den_le (t := t) hb
    show Sz n ((Rat.divInt t b).den : Int)
    unfold Sz at *
    omega
theorem ofQ_same {t b : Int} (hb : b ≠ 0) : (ofQ (Rat.divInt t b)).1 * b = t * (ofQ (Rat.divInt t b)).2 := by
  have h : Rat.divInt (Rat.divInt t b).num (Rat.divInt t b).den = Rat.divInt t b := Rat.num_divInt_den _
  have hd : ((Rat.divInt t b).den : Int) ≠ 0 := by have := (Rat.divInt t b).den_nz; omega
  exact (Rat.divInt_eq_divInt_iff hd hb).mp h
theorem divInt_add {a b c : Int} (hc : c ≠ 0) : Rat.divInt a c + Rat.divInt b c = Rat.divInt (a + b) c := by
  rw [Rat.divInt_add_divInt _ _ hc hc, ← Int.add_mul]
  exact Rat.divInt_mul_right hc
theorem divInt_sub {a b c : Int} (hc : c ≠ 0) : Rat.divInt a c - Rat.divInt b c = Rat.divInt (a - b) c := by
  rw [Rat.divInt_sub_divInt _ _ hc hc, ← Int.sub_mul]
  exact Rat.divInt_mul_right hc
/-- lowest terms by a divisor above nought -/
theorem low_pos {top bottom g : Int} (hb : 0 < bottom) (hg : g = (Int.gcd top bottom : Int)) : (top / g, bottom / g) = ofQ (Rat.divInt top bottom) := by
  have h := low_eq (top := top) (bottom := bottom) (g := g) (s := g) (by omega) hg (by rw [decide_eq_false (by omega)]; rfl)
  have hp : 0 < Int.gcd top bottom := Int.gcd_pos_of_ne_zero_right top (by omega)
  rw [Int.fdiv_eq_ediv_of_nonneg _ (by omega), Int.fdiv_eq_ediv_of_nonneg _ (by omega)] at h
  exact h
theorem cdivw_gcd {i t b : Int} (hb : 0 < b) (h : Sz 8999 b) : CDivW i (Int.gcd t b : Int) := by
  have h1 : Int.gcd t b ≤ b.natAbs := Int.gcd_le_natAbs_right _ (by omega)
  have h2 : 0 < Int.gcd t b := Int.gcd_pos_of_ne_zero_right t (by omega)
  refine ⟨by omega, PySem.Flt.log2_lt_of (by decide) ?_⟩
  unfold Sz at h
  have : (2 : Nat) ^ 8999 ≤ 2 ^ 9000 := Nat.pow_le_pow_right (by decide) (by decide)
  rw [Int.natAbs_natCast]
  omega
theorem sz_nat {n : Nat} {i : Int} (k : Nat) (h : i.natAbs ≤ k) (hk : k < 2 ^ n) : Sz n i := Nat.lt_of_le_of_lt h hk
/-- a fraction in lowest terms, of the size of the laws' own -/
structure G60 (p : Fr) : Prop where
  low : Low p
  ok : FrOk 60 p
theorem G60.nz {p : Fr} (h : G60 p) : p.2 ≠ 0 := h.ok.nz
theorem g60_of {t b : Int} (hb : b ≠ 0) (h1 : Sz 60 t) (h2 : Sz 60 b) : G60 (ofQ (Rat.divInt t b)) := ⟨low_ofQ _, ofQ_ok hb h1 h2⟩
theorem g60_01 : G60 (0, 1) := ⟨⟨by decide, by decide⟩, ⟨by decide, by unfold Sz; decide, by unfold Sz; decide⟩⟩
/-! ### the law itself -/
theorem law_ok {P : Program} {w : World} {K : PySem.W.Frag} {mg : Str → Option Value} {base : Heap} {f : Str} {st : Stmt} {N ps : List Str} {k n : Nat} {Rf : List PyData → Res → Prop} {g : Addr} {fd : FuncData} (F : Fun K f f st g fd) (S : FnScope N ps (defScope st)) (hn : ps.length = n)
    (hbody : ∀ (g : Addr) (cdv : Value) (A : Around) (outer : List Env) (s : Shared) (H : Hp) (E : XK) (X : Cx), X = cxOf (L2.CX P w) P w K mg base N f (defScope st) g cdv A outer s H E → CxF X (wF E) → Room k X.A → ∀ xs r, xs.length = n → Rf xs r → DSs X (wF E) (defBody st) (entry N.length xs) (fin r)) :
    FnOk P w K mg base (L2.CX P w) (k + 1) g fd ps (spD K n Rf) := fn_ok F S hn (fun cdv A outer s H E X => hbody g cdv A outer s H E X)
theorem def_mk {K : PySem.W.Frag} {h : Heap} {mg : Str → Option Value} {f : Str} {st : Stmt} {ps : List Str} {g : Addr} {fd : FuncData} (X : K.In h) (G : h.Ns mainGlobals mg) (a : PySem.W.nsIn K mainGlobals f = some (some (.ref g))) (F : Fun K f f st g fd) (b : Binds K fd ps []) : Def K mg f st ps := ⟨g, fd, F, PySem.W.mg_of X G a, b⟩
theorem law_sp {K : PySem.W.Frag} {H : Hp} {a : Addr} {ns : List Int} {Rf : List PyData → Res → Prop} (hS : SqL K H a (ns.map V.int)) (h : Rf [eL .int ns] (.v (.bool true))) : spD K 1 Rf [.ref a] H (fun v _ => v = .bl true) fun _ _ _ => False := by
  refine ⟨[], [eL .int ns], .v (.bool true), rfl, fun a h => (by cases h), ?_, h, ?_⟩
  · have e : fz [] H = H := by funext a; simp [fz]
    rw [e]
    exact .cons (.lst hS RA.ints) .nil
  · intro v H' F _ _ _ o
    cases o with
    | d r => cases r; rfl
theorem walk {l : PySem.W.OpenLaw} {q : Program} {loose : List Str} {XP : (Str → Option Value) → Heap → Prop} {YP : World → Heap → Prop} {d : DefRec} {K : Params → PySem.W.Frag} {x : Str} {k : Nat} {Rf : List PyData → Res → Prop} (hn : l.most = some 63) (hdf : d.params.defaults = []) (hr : Room k callerA)
    (hY : ∀ (w : World) (h : Heap), YP w h → (K w.params).In h)
    (F : ∀ (w : World) (mg : Str → Option Value) (fa : Addr) (h : Heap), (K w.params).In h → h.Ns mainGlobals mg → mg d.name = some (.ref fa) →
      ∃ fd : FuncData, (∀ (s : Shared) (u : Value), BindsTo s fd ⟨[u], []⟩ [(x, u)]) ∧ ∀ base : Heap, (K w.params).In base → base.Ns mainGlobals mg → FnOk l.prog w (K w.params) mg base (L2.CX l.prog w) k fa fd [x] (spD (K w.params) 1 Rf))
    (h : ∀ ns : List Int, ns.length ≤ 63 → Rf [eL .int ns] (.v (.bool true))) :
    PySem.W.WalkO q loose XP YP l.row.toRowW d [] (fun f vs => PySem.call f vs) :=
  L2.walk_of (n := 63) (k := k) (x := x) (CX := fun w => L2.CX l.prog w) (sp := fun w => spD (K w.params) 1 Rf) hn (by decide) hdf hr hY F (fun w H a ns hl _ hS => law_sp hS (h ns hl)) fun w H s e s' z => by
    obtain ⟨_, _, _, _, _, _, _, _, _, _, _, _, hE⟩ := z
    exact hE
/-! ### tests of classes -/
theorem kit_refT {K : PySem.W.Frag} {C S : Addr} (h1 : PySem.W.isClsIn K S = true) (h2 : PySem.W.typeIn K (.ref S) = some (.type "type")) (h3 : PySem.W.subIn K (.ref C) (.ref S) = some true) : PySem.W.kitOne K (.ref C) (.ref S) = some true := by
  have e : ((PySem.W.clsIn K S).isSome && PySem.W.typeIn K (.ref S) == some (.type "type")) = true := by
    rw [show (PySem.W.clsIn K S).isSome = true from h1, h2]
    rfl
  show (if (Value.ref C == Value.ref S) = true then some true else if ((PySem.W.clsIn K S).isSome && PySem.W.typeIn K (.ref S) == some (.type "type")) = true then PySem.W.subIn K (.ref C) (.ref S) else none) = some true
  rw [if_pos e, h3]
  split <;> rfl
theorem kit_refF {K : PySem.W.Frag} {C S : Addr} (h1 : PySem.W.isClsIn K S = true) (h2 : PySem.W.typeIn K (.ref S) = some (.type "type")) (h3 : PySem.W.subIn K (.ref C) (.ref S) = some false) (h4 : (Value.ref C == Value.ref S) = false) : PySem.W.kitOne K (.ref C) (.ref S) = some false := by
  have e : ((PySem.W.clsIn K S).isSome && PySem.W.typeIn K (.ref S) == some (.type "type")) = true := by
    rw [show (PySem.W.clsIn K S).isSome = true from h1, h2]
    rfl
  show (if (Value.ref C == Value.ref S) = true then some true else if ((PySem.W.clsIn K S).isSome && PySem.W.typeIn K (.ref S) == some (.type "type")) = true then PySem.W.subIn K (.ref C) (.ref S) else none) = some false
  rw [if_pos e, h3, h4]
  rfl
theorem kit_tyT {K : PySem.W.Frag} {C : Addr} {T : String} (h1 : PySem.W.kitMeta T = true) (h3 : PySem.W.subIn K (.ref C) (.type T) = some true) : PySem.W.kitOne K (.ref C) (.type T) = some true := by
  show (if (Value.ref C == Value.type T) = true then some true else if PySem.W.kitMeta T = true then PySem.W.subIn K (.ref C) (.type T) else none) = some true
  rw [if_pos h1, h3]
  split <;> rfl
theorem kit_any {K : PySem.W.Frag} {t c : Value} {r : List Value} (h : PySem.W.kitOne K t c = some false) (h2 : PySem.W.kitAny K t r = some false) : PySem.W.kitAny K t (c :: r) = some false := by
  unfold PySem.W.kitAny
  rw [h]
  exact h2
theorem exm_ref {K : PySem.W.Frag} {C S : Addr} (h0 : PySem.W.subIn K (.ref S) (.type "BaseException") = some true) (h1 : PySem.W.isClsIn K S = true) (h2 : PySem.W.typeIn K (.ref S) = some (.type "type")) {b : Bool} (h3 : PySem.W.subIn K (.ref C) (.ref S) = some b) : PySem.W.exmOne K (.ref C) (.ref S) = some b := by
  have e0 : (PySem.W.subIn K (.ref S) (.type "BaseException") == some true) = true := by rw [h0]; rfl
  have e : ((PySem.W.clsIn K S).isSome && PySem.W.typeIn K (.ref S) == some (.type "type")) = true := by
    rw [show (PySem.W.clsIn K S).isSome = true from h1, h2]
    rfl
  show (if (PySem.W.subIn K (.ref S) (.type "BaseException") == some true) = true then (if ((PySem.W.clsIn K S).isSome && PySem.W.typeIn K (.ref S) == some (.type "type")) = true then PySem.W.subIn K (.ref C) (.ref S) else none) else none) = some b
  rw [if_pos e0, if_pos e, h3]
end D

end

section
set_option Elab.async false
set_option linter.all false
set_option autoImplicit false
set_option maxRecDepth 100000
set_option maxHeartbeats 2000000
namespace D
open PySem L2 PySem.Spec PyProof.Rows
/-! ### data of any kind -/
def isWhole : PyData → Bool
  | .int _ => true
  | _ => false
def asI : PyData → Int
  | .int i => i
  | _ => 0
def elems : PyData → List PyData
  | .tuple xs => xs
  | .list xs => xs
  | _ => []
def pyLen (x : PyData) : Int := ((elems x).length : Int)
theorem isWhole_eq {x : PyData} (h : isWhole x = true) : x = .int (asI x) := by cases x <;> first | rfl | cases h
theorem tuple_eq {x : PyData} (h : isTuple x = true) : x = .tuple (elems x) := by cases x <;> first | rfl | cases h
theorem list_eq {x : PyData} (h : isList x = true) : x = .list (elems x) := by cases x <;> first | rfl | cases h
theorem whole_mk {x : PyData} (h : (isInt x && !isBool x) = true) : isWhole x = true := by cases x <;> first | rfl | cases h
section
variable {X : Cx} {E : List Sl} {a b : Expr} {pos nm : Pos} {x : PyData} {i : Int}
theorem de_asI (h : DE X E a x) (hw : isWhole x = true) : DE X E a (.int (asI x)) := isWhole_eq hw ▸ h
theorem de_lenA (ha : DE X E a x) (hs : isTuple x = true ∨ isList x = true) (hg : Gl X "len") (hm : X.mg "len" = none) (h : starEach [a] X.env = (false, eval a X.env) :: starEach [] X.env := by rfl) : DE X E (.Call (.Name "len" nm) [a] [] pos) (.int (pyLen x)) := by
  rcases hs with hs | hs
  · exact de_lenT (tuple_eq hs ▸ ha) hg hm h
  · exact de_lenD (list_eq hs ▸ ha) hg hm h
theorem de_ixA (ha : DE X E a x) (hb : DE X E b (.int i)) (hs : isTuple x = true ∨ isList x = true) (hr : inR (elems x).length i) (h : PlainIx b := by exact fun _ _ => rfl) : DE X E (.Subscript a b pos) (gx (elems x) i) := by
  rcases hs with hs | hs
  · exact de_it (tuple_eq hs ▸ ha) hb (at_gx hr) h
  · exact de_ix (list_eq hs ▸ ha) hb (at_gx hr) h
end
theorem inR_py {x : PyData} {i : Int} (h0 : 0 ≤ i) (h : i < pyLen x) : inR (elems x).length i := ⟨by unfold pyLen at h; omega, h⟩
/-- the first i of them are whole numbers -/
def WhI (xs : List PyData) (i : Nat) : Prop := ∀ (j : Nat) (y : PyData), j < i → xs[j]? = some y → isWhole y = true
theorem whI_0 {xs : List PyData} : WhI xs 0 := fun j y h _ => by omega
theorem whI_step {xs : List PyData} {i : Nat} {a : PyData} (h : WhI xs i) (ha : xs[i]? = some a) (hw : isWhole a = true) : WhI xs (i + 1) := by
  intro j y hj hy
  by_cases e : j < i
  · exact h j y e hy
  · obtain rfl : j = i := by omega
    rw [ha] at hy
    cases hy
    exact hw
theorem whI_two {x y : PyData} {n : Nat} (h : WhI [x, y] n) (hn : n = 2) : isWhole x = true ∧ isWhole y = true := by
  subst hn
  exact ⟨h 0 x (by omega) rfl, h 1 y (by omega) rfl⟩
theorem gcd_div {top bottom s p i : Int} (h : p = bif decide (bottom < 0) then 0 - s else s) (hs : s = (Int.gcd top bottom : Int)) (hb : bottom ≠ 0) (hz : Sz 8999 bottom) : CDivZ i p := by
  have h1 := gcd_sz (a := top) hb hz
  have h2 : 0 < Int.gcd top bottom := Int.gcd_pos_of_ne_zero_right top hb
  have h3 : p = -s ∨ p = s := by
    rw [h]
    cases decide (bottom < 0)
    · exact .inr rfl
    · exact .inl (by show 0 - s = -s; omega)
  have h4 : p.natAbs = Int.gcd top bottom := by omega
  refine divZ_of (n := 8999) ?_ (by omega)
  unfold Sz at *
  omega
theorem gcd_three (t b : Int) (h : Int.gcd t b = 1) : Int.gcd (3 * t) (3 * b) = 3 := by rw [Int.gcd_mul_left, h]; rfl
end D

end

section
set_option Elab.async false
set_option linter.all false
set_option autoImplicit false
set_option maxRecDepth 100000
set_option maxHeartbeats 2000000
namespace D
open PySem L2 PySem.Spec PyProof.Rows
/-! ### owned things within owned things: paths -/
def OT.sub : OT → List Nat → Option OT
  | z, [] => some z
  | .l ts, j :: p => (ts[j]?).bind fun u => u.sub p
  | .t ts, j :: p => (ts[j]?).bind fun u => u.sub p
  | .d _, _ :: _ => none
def OT.put : OT → List Nat → OT → OT
  | _, [], u => u
  | .l ts, j :: p, u => .l (ts.set j (((ts[j]?).getD (.d .none)).put p u))
  | .t ts, j :: p, u => .t (ts.set j (((ts[j]?).getD (.d .none)).put p u))
  | .d x, _ :: _, _ => .d x
inductive At (H : Hp) : V → List Nat → V → Prop
  | nil {v : V} : At H v [] v
  | l {a : Addr} {vs : List V} {j : Nat} {u w : V} {p : List Nat} : H a = some (.lst vs) → vs[j]? = some u → At H u p w → At H (.ref a) (j :: p) w
  | t {a : Addr} {vs : List V} {j : Nat} {u w : V} {p : List Nat} : H a = some (.tup vs) → vs[j]? = some u → At H u p w → At H (.ref a) (j :: p) w
theorem At.det {H : Hp} {v w w' : V} {p : List Nat} (h : At H v p w) (h' : At H v p w') : w = w' := by
  induction h with
  | nil => cases h'; rfl
  | l h1 h2 _ ih =>
    cases h' with
    | l g1 g2 g3 =>
      rw [h1] at g1; cases g1
      rw [h2] at g2; cases g2
      exact ih g3
    | t g1 _ _ => rw [h1] at g1; cases g1
  | t h1 h2 _ ih =>
    cases h' with
    | t g1 g2 g3 =>
      rw [h1] at g1; cases g1
      rw [h2] at g2; cases g2
      exact ih g3
    | l g1 _ _ => rw [h1] at g1; cases g1
theorem At.same {H H' : Hp} (e : Same H H') {v w : V} {p : List Nat} (h : At H v p w) : At H' v p w := by
  induction h with
  | nil => exact .nil
  | l h1 h2 _ ih => exact .l (e _ _ h1) h2 ih
  | t h1 h2 _ ih => exact .t (e _ _ h1) h2 ih
theorem At.snocL {H : Hp} {v w : V} {a : Addr} {vs : List V} {j : Nat} {p : List Nat} (h : At H v p (.ref a)) (h1 : H a = some (.lst vs)) (h2 : vs[j]? = some w) : At H v (p ++ [j]) w := by
  generalize hb : V.ref a = b at h
  induction h with
  | nil => subst hb; exact .l h1 h2 .nil
  | l g1 g2 _ ih => exact .l g1 g2 (ih hb)
  | t g1 g2 _ ih => exact .t g1 g2 (ih hb)
theorem At.snocT {H : Hp} {v w : V} {a : Addr} {vs : List V} {j : Nat} {p : List Nat} (h : At H v p (.ref a)) (h1 : H a = some (.tup vs)) (h2 : vs[j]? = some w) : At H v (p ++ [j]) w := by
  generalize hb : V.ref a = b at h
  induction h with
  | nil => subst hb; exact .t h1 h2 .nil
  | l g1 g2 _ ih => exact .l g1 g2 (ih hb)
  | t g1 g2 _ ih => exact .t g1 g2 (ih hb)
/-- what stands at a path, seen -/
theorem Own.trace {K : PySem.W.Frag} {W : List Addr} {H : Hp} {s : OT} : ∀ (p : List Nat) {t : OT} {v : V} {F : List Addr}, Own K W H v t F → F.Nodup → t.sub p = some s → ∃ w G, At H v p w ∧ Own K W H w s G ∧ (∀ a ∈ G, a ∈ F) ∧ G.Nodup
  | [], z, v, F, h, nF, e => by
    have e' : some z = some s := by cases z <;> exact e
    cases e'
    exact ⟨v, F, .nil, h, fun a ha => ha, nF⟩
  | j :: p, .d x, v, F, h, nF, e => by cases e
  | j :: p, .l ts, v, F, h, nF, e => by
    have e' : (ts[j]?).bind (fun u => u.sub p) = some s := e
    cases q : ts[j]? with
    | none => rw [q] at e'; cases e'
    | some u =>
      rw [q] at e'
      cases h with
      | l hp hl ho =>
        obtain ⟨x, G, h1, h2, h3, h4⟩ := ho.get q
        obtain ⟨w, G2, k1, k2, k3, k4⟩ := Own.trace p h2 (h4 (List.nodup_cons.mp nF).2) e'
        exact ⟨w, G2, .l hl h1 k1, k2, fun a ha => List.mem_cons_of_mem _ (h3 a (k3 a ha)), k4⟩
  | j :: p, .t ts, v, F, h, nF, e => by
    have e' : (ts[j]?).bind (fun u => u.sub p) = some s := e
    cases q : ts[j]? with
    | none => rw [q] at e'; cases e'
    | some u =>
      rw [q] at e'
      cases h with
      | t hl ho =>
        obtain ⟨x, G, h1, h2, h3, h4⟩ := ho.get q
        obtain ⟨w, G2, k1, k2, k3, k4⟩ := Own.trace p h2 (h4 nF) e'
        exact ⟨w, G2, .t (fz_sub _ _ hl) h1 k1, k2, fun a ha => h3 a (k3 a ha), k4⟩
mutual
theorem Own.fp {K : PySem.W.Frag} {W W' : List Addr} {H H' : Hp} (e : Same H H') : ∀ (x : OT) (v : V) (F F' : List Addr), Own K W H v x F → Own K W' H' v x F' → F = F'
  | .d x, v, F, F', h, h' => by cases h; cases h'; rfl
  | .l ts, v, F, F', h, h' => by
    cases h with
    | l hp hl ho =>
      cases h' with
      | l hp' hl' ho' =>
        have z := e _ _ hl
        rw [hl'] at z
        cases z
        rw [Owns.fp e ts _ _ _ ho ho']
  | .t ts, v, F, F', h, h' => by
    cases h with
    | t hl ho =>
      cases h' with
      | t hl' ho' =>
        have z := e _ _ (fz_sub _ _ hl)
        rw [fz_sub _ _ hl'] at z
        cases z
        exact Owns.fp e ts _ _ _ ho ho'
theorem Owns.fp {K : PySem.W.Frag} {W W' : List Addr} {H H' : Hp} (e : Same H H') : ∀ (xs : List OT) (vs : List V) (F F' : List Addr), Owns K W H vs xs F → Owns K W' H' vs xs F' → F = F'
  | [], vs, F, F', h, h' => by cases h; cases h'; rfl
  | x :: xs, vs, F, F', h, h' => by
    cases h with
    | cons h1 h2 =>
      cases h' with
      | cons h1' h2' => rw [Own.fp e x _ _ _ h1 h1', Owns.fp e xs _ _ _ h2 h2']
end
/-- one of several owned things, put anew -/
theorem Owns.pick {K : PySem.W.Frag} {W : List Addr} {H : Hp} : ∀ {ts : List OT} {vs : List V} {F : List Addr} (j : Nat) {t : OT}, Owns K W H vs ts F → F.Nodup → ts[j]? = some t → ∃ v G, vs[j]? = some v ∧ Own K W H v t G ∧ G.Nodup ∧ (∀ a ∈ G, a ∈ F) ∧
    ∀ (H1 : Hp) (t' : OT) (G1 N : List Addr), Same (fz W H) (fz W H1) → (∀ a ∈ F, a ∉ G → H1 a = H a) → Own K W H1 v t' G1 → G1.Nodup → (∀ a ∈ G1, a ∈ G ∨ a ∈ N) → (∀ a ∈ N, a ∉ F) → ∃ F1, Owns K W H1 vs (ts.set j t') F1 ∧ F1.Nodup ∧ ∀ a ∈ F1, a ∈ F ∨ a ∈ N
  | [], _, _, j, t, h, nF, e => by simp at e
  | u :: ts, _, _, 0, t, h, nF, e => by
    cases h with
    | @cons v _ G vs _ F2 h1 h2 =>
      cases (Option.some.inj e : u = t)
      obtain ⟨n1, n2, n3⟩ := List.nodup_append.mp nF
      refine ⟨v, G, rfl, h1, n1, fun a ha => List.mem_append_left _ ha, fun H1 t' G1 N s hk o nG1 hG hN => ?_⟩
      have m2 : Owns K W H1 vs ts F2 := Owns.mono s _ _ _ (fun a ha => ⟨(Owns.sub _ _ _ h2 a ha).1, hk a (List.mem_append_right _ ha) fun z => n3 a z a ha rfl⟩) h2
      refine ⟨_, .cons o m2, List.nodup_append.mpr ⟨nG1, n2, fun a ha b hb q => ?_⟩, fun a ha => ?_⟩
      · rcases hG a ha with z | z
        · exact n3 a z b hb q
        · exact hN a z (q ▸ List.mem_append_right _ hb)
      · rcases List.mem_append.mp ha with z | z
        · exact (hG a z).imp (List.mem_append_left _) id
        · exact .inl (List.mem_append_right _ z)
  | u :: ts, _, _, j + 1, t, h, nF, e => by
    cases h with
    | @cons v0 _ G0 vs _ F2 h1 h2 =>
      obtain ⟨n1, n2, n3⟩ := List.nodup_append.mp nF
      obtain ⟨v, G, k1, k2, k3, k4, k5⟩ := Owns.pick (ts := ts) j h2 n2 (by simpa using e)
      refine ⟨v, G, by simpa using k1, k2, k3, fun a ha => List.mem_append_right _ (k4 a ha), fun H1 t' G1 N s hk o nG1 hG hN => ?_⟩
      obtain ⟨F1, q1, q2, q3⟩ := k5 H1 t' G1 N s (fun a ha n => hk a (List.mem_append_right _ ha) n) o nG1 hG (fun a ha z => hN a ha (List.mem_append_right _ z))
      have m1 : Own K W H1 v0 u G0 := Own.mono s _ _ _ (fun a ha => ⟨(Own.sub _ _ _ h1 a ha).1, hk a (List.mem_append_left _ ha) fun z => n3 a ha a (k4 a z) rfl⟩) h1
      refine ⟨_, .cons m1 q1, List.nodup_append.mpr ⟨n1, q2, fun a ha b hb q => ?_⟩, fun a ha => ?_⟩
      · rcases q3 b hb with z | z
        · exact n3 a ha b z q
        · exact hN b z (q ▸ List.mem_append_left _ ha)
      · rcases List.mem_append.mp ha with z | z
        · exact .inl (List.mem_append_left _ z)
        · exact (q3 a z).imp (List.mem_append_right _) id
/-- the list at a path gets other items -/
theorem Own.mutP {K : PySem.W.Frag} {W : List Addr} {H : Hp} {ts : List OT} : ∀ (p : List Nat) {t : OT} {v : V} {F : List Addr}, Own K W H v t F → F.Nodup → t.sub p = some (.l ts) → ∃ q vs G, At H v p (.ref q) ∧ H q = some (.lst vs) ∧ Owns K W H vs ts G ∧ q ∈ W ∧ q ∈ F ∧ G.Nodup ∧ (∀ a ∈ G, a ∈ F) ∧
    ∀ (vs' : List V) (ts' : List OT) (G' N : List Addr), Owns K W H vs' ts' G' → G'.Nodup → (∀ a ∈ G', a ∈ G ∨ a ∈ N) → (∀ a ∈ N, a ∉ F) → ∃ F', Own K W (upd H q (.lst vs')) v (t.put p (.l ts')) F' ∧ F'.Nodup ∧ ∀ a ∈ F', a ∈ F ∨ a ∈ N
  | [], z, v, F, h, nF, e => by
    have e' : some z = some (.l ts) := by cases z <;> exact e
    cases e'
    cases h with
    | @l q vs _ G hp hl ho =>
      obtain ⟨m1, m2⟩ := List.nodup_cons.mp nF
      refine ⟨q, vs, G, .nil, hl, ho, hp, List.mem_cons_self, m2, fun a ha => List.mem_cons_of_mem _ ha, fun vs' ts' G' N o n g gN => ?_⟩
      have qG : ∀ a ∈ G', a ≠ q := fun a ha z => by
        rcases g a ha with y | y
        · exact m1 (z ▸ y)
        · exact gN a y (z ▸ List.mem_cons_self)
      refine ⟨q :: G', .l hp upd_same (Owns.mono (by rw [fz_upd hp]; exact Same.refl _) _ _ _ (fun a ha => ⟨(Owns.sub _ _ _ o a ha).1, upd_ne (qG a ha)⟩) o), List.nodup_cons.mpr ⟨fun z => qG q z rfl, n⟩, fun a ha => ?_⟩
      rcases List.mem_cons.mp ha with z | z
      · exact .inl (z ▸ List.mem_cons_self)
      · exact (g a z).imp (List.mem_cons_of_mem _) id
  | j :: p, .d x, v, F, h, nF, e => by cases e
  | j :: p, .l us, v, F, h, nF, e => by
    have e' : (us[j]?).bind (fun u => u.sub p) = some (.l ts) := e
    cases q : us[j]? with
    | none => rw [q] at e'; cases e'
    | some u =>
      rw [q] at e'
      cases h with
      | @l b ws _ F2 hp hl ho =>
        obtain ⟨m1, m2⟩ := List.nodup_cons.mp nF
        obtain ⟨x, G, k1, k2, k3, k4, k5⟩ := Owns.pick j ho m2 q
        obtain ⟨q2, vs, G2, l1, l2, l3, l4, l5, l6, l7, l8⟩ := Own.mutP p k2 k3 e'
        have bq : b ≠ q2 := fun z => m1 (z ▸ k4 _ l5)
        refine ⟨q2, vs, G2, .l hl k1 l1, l2, l3, l4, List.mem_cons_of_mem _ (k4 _ l5), l6, fun a ha => List.mem_cons_of_mem _ (k4 _ (l7 a ha)), fun vs' ts' G' N o n g gN => ?_⟩
        obtain ⟨G1, r1, r2, r3⟩ := l8 vs' ts' G' N o n g (fun a ha z => gN a ha (List.mem_cons_of_mem _ (k4 a z)))
        obtain ⟨F1, s1, s2, s3⟩ := k5 (upd H q2 (.lst vs')) (u.put p (.l ts')) G1 N (by rw [fz_upd l4]; exact Same.refl _) (fun a ha hn => upd_ne fun z => hn (z ▸ l5)) r1 r2 r3 (fun a ha z => gN a ha (List.mem_cons_of_mem _ z))
        refine ⟨b :: F1, ?_, List.nodup_cons.mpr ⟨fun z => ?_, s2⟩, fun a ha => ?_⟩
        · show Own K W _ _ (.l (us.set j (((us[j]?).getD (.d .none)).put p (.l ts')))) _
          rw [q]
          exact .l hp (by rw [upd_ne bq]; exact hl) s1
        · rcases s3 b z with y | y
          · exact m1 y
          · exact gN b y List.mem_cons_self
        · rcases List.mem_cons.mp ha with z | z
          · exact .inl (z ▸ List.mem_cons_self)
          · exact (s3 a z).imp (List.mem_cons_of_mem _) id
  | j :: p, .t us, v, F, h, nF, e => by
    have e' : (us[j]?).bind (fun u => u.sub p) = some (.l ts) := e
    cases q : us[j]? with
    | none => rw [q] at e'; cases e'
    | some u =>
      rw [q] at e'
      cases h with
      | @t b ws _ _ hl ho =>
        obtain ⟨x, G, k1, k2, k3, k4, k5⟩ := Owns.pick j ho nF q
        obtain ⟨q2, vs, G2, l1, l2, l3, l4, l5, l6, l7, l8⟩ := Own.mutP p k2 k3 e'
        refine ⟨q2, vs, G2, .t (fz_sub _ _ hl) k1 l1, l2, l3, l4, k4 _ l5, l6, fun a ha => k4 _ (l7 a ha), fun vs' ts' G' N o n g gN => ?_⟩
        obtain ⟨G1, r1, r2, r3⟩ := l8 vs' ts' G' N o n g (fun a ha z => gN a ha (k4 a z))
        obtain ⟨F1, s1, s2, s3⟩ := k5 (upd H q2 (.lst vs')) (u.put p (.l ts')) G1 N (by rw [fz_upd l4]; exact Same.refl _) (fun a ha hn => upd_ne fun z => hn (z ▸ l5)) r1 r2 r3 gN
        refine ⟨F1, ?_, s2, s3⟩
        show Own K W _ _ (.t (us.set j (((us[j]?).getD (.d .none)).put p (.l ts')))) _
        rw [q]
        exact .t (by rw [fz_upd l4]; exact hl) s1
theorem Slots.mutP {K : PySem.W.Frag} {W : List Addr} {H : Hp} {ts : List OT} {p : List Nat} {σ : L2.St} {E : List Sl} {F : List Addr} (h : Slots K W H σ E F) : F.Nodup → ∀ (i : Nat) (t : OT), E[i]? = some (.o t) → t.sub p = some (.l ts) →
    ∃ v q vs G, σ[i]? = some (some v) ∧ At H v p (.ref q) ∧ H q = some (.lst vs) ∧ Owns K W H vs ts G ∧ q ∈ W ∧ q ∈ F ∧ G.Nodup ∧ (∀ a ∈ G, a ∈ F) ∧
    ∀ (vs' : List V) (ts' : List OT) (G' N : List Addr), Owns K W H vs' ts' G' → G'.Nodup → (∀ a ∈ G', a ∈ G ∨ a ∈ N) → (∀ a ∈ N, a ∉ F) → ∃ F', Slots K W (upd H q (.lst vs')) σ (E.set i (.o (t.put p (.l ts')))) F' ∧ F'.Nodup ∧ ∀ a ∈ F', a ∈ F ∨ a ∈ N := by
  induction h with
  | nil => intro _ i t e; simp at e
  | no hs ih =>
    intro nF i t e es
    cases i with
    | zero => simp at e
    | succ i =>
      obtain ⟨v, q, vs, G, h1, h2, h3, h4, h5, h6, h7, h8, h9⟩ := ih nF i t (by simpa using e) es
      refine ⟨v, q, vs, G, h1, h2, h3, h4, h5, h6, h7, h8, fun vs' ts' G' N o n g gN => ?_⟩
      obtain ⟨F', k1, k2, k3⟩ := h9 vs' ts' G' N o n g gN
      exact ⟨F', .no k1, k2, k3⟩
  | raw hs ih =>
    intro nF i t e es
    cases i with
    | zero => simp at e
    | succ i =>
      obtain ⟨v, q, vs, G, h1, h2, h3, h4, h5, h6, h7, h8, h9⟩ := ih nF i t (by simpa using e) es
      refine ⟨v, q, vs, G, h1, h2, h3, h4, h5, h6, h7, h8, fun vs' ts' G' N o n g gN => ?_⟩
      obtain ⟨F', k1, k2, k3⟩ := h9 vs' ts' G' N o n g gN
      exact ⟨F', .raw k1, k2, k3⟩
  | fx r hs ih =>
    intro nF i t e es
    cases i with
    | zero => simp at e
    | succ i =>
      obtain ⟨v, q, vs, G, h1, h2, h3, h4, h5, h6, h7, h8, h9⟩ := ih nF i t (by simpa using e) es
      refine ⟨v, q, vs, G, h1, h2, h3, h4, h5, h6, h7, h8, fun vs' ts' G' N o n g gN => ?_⟩
      obtain ⟨F', k1, k2, k3⟩ := h9 vs' ts' G' N o n g gN
      exact ⟨F', .fx (by rw [fz_upd h5]; exact r) k1, k2, k3⟩
  | @o v1 t1 G1 σ1 E1 F1 ho hs ih =>
    intro nF i t e es
    obtain ⟨n1, n2, n3⟩ := List.nodup_append.mp nF
    cases i with
    | zero =>
      cases Option.some.inj e
      obtain ⟨q, vs, G, k1, k2, k3, k4, k5, k6, k7, k8⟩ := Own.mutP p ho n1 es
      refine ⟨v1, q, vs, G, rfl, k1, k2, k3, k4, List.mem_append_left _ k5, k6, fun a ha => List.mem_append_left _ (k7 a ha), fun vs' ts' G' N o n g gN => ?_⟩
      obtain ⟨F', l1, l2, l3⟩ := k8 vs' ts' G' N o n g (fun a ha z => gN a ha (List.mem_append_left _ z))
      have qF : ∀ a ∈ F1, a ≠ q := fun a ha z => n3 q k5 a ha z.symm
      refine ⟨_, .o l1 (hs.mono (by rw [fz_upd k4]; exact Same.refl _) fun a ha => ⟨(hs.sub a ha).1, upd_ne (qF a ha)⟩), List.nodup_append.mpr ⟨l2, n2, fun a ha b hb z => ?_⟩, fun a ha => ?_⟩
      · rcases l3 a ha with y | y
        · exact n3 a y b hb z
        · exact gN a y (List.mem_append_right _ (z ▸ hb))
      · rcases List.mem_append.mp ha with z | z
        · exact (l3 a z).imp (List.mem_append_left _) id
        · exact .inl (List.mem_append_right _ z)
    | succ i =>
      obtain ⟨v, q, vs, G, h1, h2, h3, h4, h5, h6, h7, h8, h9⟩ := ih n2 i t (by simpa using e) es
      refine ⟨v, q, vs, G, h1, h2, h3, h4, h5, List.mem_append_right _ h6, h7, fun a ha => List.mem_append_right _ (h8 a ha), fun vs' ts' G' N o n g gN => ?_⟩
      obtain ⟨F', k1, k2, k3⟩ := h9 vs' ts' G' N o n g (fun a ha z => gN a ha (List.mem_append_right _ z))
      have qG : ∀ a ∈ G1, a ≠ q := fun a ha z => n3 a ha q h6 z
      refine ⟨_, .o (Own.mono (by rw [fz_upd h5]; exact Same.refl _) _ _ _ (fun a ha => ⟨(Own.sub _ _ _ ho a ha).1, upd_ne (qG a ha)⟩) ho) k1, List.nodup_append.mpr ⟨n1, k2, fun a ha b hb z => ?_⟩, fun a ha => ?_⟩
      · rcases k3 b hb with y | y
        · exact n3 a ha b y z
        · exact gN b y (List.mem_append_left _ (z ▸ ha))
      · rcases List.mem_append.mp ha with z | z
        · exact .inl (List.mem_append_left _ z)
        · exact (k3 a z).imp (List.mem_append_right _) id
theorem upd_there {H : Hp} {q : Addr} {o : HO} (a : Addr) (h : H a ≠ none) : upd H q o a ≠ none := fun z => by
  by_cases m : a = q
  · rw [m, upd_same] at z; cases z
  · rw [upd_ne m] at z; exact h z
theorem EnvR.mutP {K : PySem.W.Frag} {M L : List Addr} {H : Hp} {σ : L2.St} {E : List Sl} {i : Nat} {t : OT} {p : List Nat} {ts : List OT} (h : EnvR K M L H σ E) (e : E[i]? = some (.o t)) (es : t.sub p = some (.l ts)) :
    ∃ v q vs G, σ[i]? = some (some v) ∧ At H v p (.ref q) ∧ H q = some (.lst vs) ∧ Owns K (L ++ M) H vs ts G ∧ G.Nodup ∧ q ∈ L ∧ (∀ a ∈ G, a ∈ L) ∧
      ∀ (H1 : Hp) (N : List Addr), Same H H1 → (∀ a ∈ N, H a = none ∧ H1 a ≠ none) → ∀ (vs' : List V) (ts' : List OT) (G' : List Addr), Owns K (N ++ (L ++ M)) H1 vs' ts' G' → G'.Nodup → (∀ a ∈ G', a ∈ G ∨ a ∈ N) →
        EnvR K M (N ++ L) (upd H1 q (.lst vs')) σ (E.set i (.o (t.put p (.l ts')))) ∧ Step L H (N ++ L) (upd H1 q (.lst vs')) := by
  obtain ⟨⟨F, hs, nF, hL⟩, dom, dj⟩ := id h
  obtain ⟨v, q, vs, G, h1, h2, h3, h4, h5, h6, h7, h8, _⟩ := hs.mutP nF i t e es
  refine ⟨v, q, vs, G, h1, h2, h3, h4, h7, hL q h6, fun a ha => hL a (h8 a ha), fun H1 N s hN vs' ts' G' o n g => ?_⟩
  obtain ⟨⟨F2, hs2, nF2, hL2⟩, dom2, dj2⟩ := h.more s hN
  have hs3 : Slots K ((N ++ L) ++ M) H1 σ E F := hs.mono (fz_mono fun a o m z => ⟨fun y => by
    rw [List.append_assoc] at y
    rcases List.mem_append.mp y with y | y
    · rw [(hN a y).1] at z; cases z
    · exact m y, s a o z⟩) fun a ha => by
      obtain ⟨_, ws, y⟩ := hs.sub a ha
      exact ⟨List.mem_append_left _ (List.mem_append_right _ (hL a ha)), by rw [s _ _ y, y]⟩
  have nN : ∀ a ∈ N, a ∉ F := fun a ha z => by
    obtain ⟨_, ws, y⟩ := hs.sub a z
    rw [(hN a ha).1] at y
    cases y
  obtain ⟨v', q', vs2, G2, k1, k2, k3, k4, k5, k6, k7, k8, k9⟩ := hs3.mutP nF i t e es
  have ev : v = v' := by rw [h1] at k1; cases k1; rfl
  subst ev
  have eq : V.ref q = V.ref q' := (h2.same s).det k2
  cases eq
  have hq1 := s _ _ h3
  rw [k3] at hq1
  cases hq1
  have eG : ∀ a ∈ G', a ∈ G2 ∨ a ∈ N := fun a ha => by
    rcases g a ha with z | z
    · exact .inl (Owns.fp s _ _ _ _ h4 k4 ▸ z)
    · exact .inr z
  obtain ⟨F3, l1, l2, l3⟩ := k9 vs' ts' G' N (by rw [List.append_assoc]; exact o) n eG nN
  refine ⟨⟨⟨F3, l1, l2, fun a ha => ?_⟩, fun a ha => upd_there a (dom2 a ha), dj2⟩, ⟨fun a o m z => ?_, fun a ha => ?_, fun a z => upd_there a (not_none_same s z)⟩⟩
  · rcases l3 a ha with z | z
    · exact List.mem_append_right _ (hL a z)
    · exact List.mem_append_left _ z
  · rw [upd_ne fun y : a = q => m (by rw [y]; exact hL q h6)]
    exact s a o z
  · rcases List.mem_append.mp ha with z | z
    · exact .inr (hN a z).1
    · exact .inl z
end D

end

section
set_option Elab.async false
set_option linter.all false
set_option autoImplicit false
set_option maxRecDepth 100000
set_option maxHeartbeats 2000000
namespace D
open PySem L2 PySem.Spec PyProof.Rows
/-! ### several things at once, some of them new and owned -/
def EvNA (K : PySem.W.Frag) (ta : TA) (E : List Sl) (ts : List OT) : Prop :=
  ∀ (M L : List Addr) (H : Hp) (σ : L2.St) (Q : List V → Hp → Prop), EnvR K M L H σ E → (∀ vs H' F, Same H H' → F.Nodup → (∀ a ∈ F, H a = none) → Owns K (F ++ (L ++ M)) H' vs ts F → Q vs H') → ta σ H Q
structure DNA (X : Cx) (E : List Sl) (es : List Expr) (ts : List OT) : Prop where
  ex : ∃ ta, PA X es ta ∧ EvNA X.K ta E ts
/-- one of them may be held by the frame -/
def EvBA (K : PySem.W.Frag) (ta : TA) (E : List Sl) (ts : List OT) : Prop :=
  ∀ (M L : List Addr) (H : Hp) (σ : L2.St) (Q : List V → Hp → Prop), EnvR K M L H σ E → (∀ vs H' F, Same H H' → F.Nodup → (∀ a ∈ F, a ∈ L) → Owns K (L ++ M) H' vs ts F → Q vs H') → ta σ H Q
structure DBA (X : Cx) (E : List Sl) (es : List Expr) (ts : List OT) : Prop where
  ex : ∃ ta, PA X es ta ∧ EvBA X.K ta E ts
theorem fz_mem {W W' : List Addr} (h : ∀ a, a ∈ W' → a ∈ W) {H : Hp} : Same (fz W H) (fz W' H) := fz_mono fun a o n e => ⟨fun z => n (h a z), e⟩
section
variable {X : Cx} {E : List Sl} {e a b c : Expr} {es : List Expr} {x y z : PyData} {xs : List PyData} {pos : Pos} {t u : OT} {ts : List OT}
theorem dna_nil : DNA X E [] [] := by
  refine ⟨_, pa_nil, fun M L H σ Q I k => ?_⟩
  exact k [] H [] (Same.refl H) List.nodup_nil (fun a ha => by cases ha) .nil
theorem dna_cons (ha : DN X E e t) (hb : DNA X E es ts) (hs : starEach (e :: es) X.env = (false, eval e X.env) :: starEach es X.env := by rfl) : DNA X E (e :: es) (t :: ts) := by
  obtain ⟨ta, a1, a2⟩ := ha
  obtain ⟨tb, b1, b2⟩ := hb
  refine ⟨_, pa_cons a1 b1 hs, fun M L H σ Q I k => a2 M L H σ _ I fun v H1 F1 s1 n1 f1 o1 => ?_⟩
  have I1 : EnvR X.K M (F1 ++ L) H1 σ E := I.more s1 fun a ha => ⟨f1 a ha, fun z => by
    obtain ⟨_, ws, q⟩ := Own.sub _ _ _ o1 a ha
    rw [q] at z; cases z⟩
  refine b2 M (F1 ++ L) H1 σ _ I1 fun vs H2 F2 s2 n2 f2 o2 => ?_
  have t1 : ∀ a ∈ F1, ∃ ws, H1 a = some (.lst ws) := fun a ha => (Own.sub _ _ _ o1 a ha).2
  refine k (v :: vs) H2 (F1 ++ F2) (s1.trans s2) (List.nodup_append.mpr ⟨n1, n2, fun a ha b hb q => ?_⟩) (fun a ha => ?_) (.cons ?_ ?_)
  · obtain ⟨ws, q1⟩ := t1 a ha
    rw [q, f2 b hb] at q1
    cases q1
  · rcases List.mem_append.mp ha with q | q
    · exact f1 a q
    · cases q2 : H a with
      | none => rfl
      | some o => have := s1 a o q2; rw [f2 a q] at this; cases this
  · refine Own.mono (fz_mono fun a o n q => ⟨fun m => ?_, s2 a o q⟩) _ _ _ (fun a ha => ?_) o1
    · rcases List.mem_append.mp m with m | m
      · rcases List.mem_append.mp m with m | m
        · exact n (List.mem_append_left _ m)
        · rw [f2 a m] at q; cases q
      · exact n (List.mem_append_right _ m)
    · obtain ⟨ws, q1⟩ := t1 a ha
      exact ⟨List.mem_append_left _ (List.mem_append_left _ ha), by rw [s2 _ _ q1, q1]⟩
  · refine Owns.mono (fz_mem fun a m => ?_) _ _ _ (fun a ha => ⟨List.mem_append_left _ (List.mem_append_right _ ha), rfl⟩) o2
    rcases List.mem_append.mp m with m | m
    · rcases List.mem_append.mp m with m | m
      · exact List.mem_append_right _ (List.mem_append_left _ (List.mem_append_left _ m))
      · exact List.mem_append_left _ m
    · rcases List.mem_append.mp m with m | m
      · exact List.mem_append_right _ (List.mem_append_left _ (List.mem_append_right _ m))
      · exact List.mem_append_right _ (List.mem_append_right _ m)
theorem dn_tupO {x1} (h : DNA X E es ts) (hl : Nat.ble ts.length sizeLine = true := by rfl) : DN X E (.Tuple es x1 pos) (.t ts) := by
  obtain ⟨ta, a1, a2⟩ := h
  refine ⟨_, pe_tup a1, fun M L H σ Q I k => a2 M L H σ _ I fun vs H1 F s1 nF hF q1 => ⟨by rw [q1.length]; exact Nat.le_of_ble_eq_true hl, fun p hp => ?_⟩⟩
  have sp : Same H1 (upd H1 p (.tup vs)) := same_new hp
  have np : p ∉ F ++ (L ++ M) := fun z => by
    rcases List.mem_append.mp z with z | z
    · obtain ⟨_, ws, q⟩ := Owns.sub _ _ _ q1 p z
      rw [hp] at q; cases q
    · exact (I.same s1).dom p z hp
  refine k _ _ F (s1.trans sp) nF hF (.t (by rw [fz_of np]; exact upd_same) (Owns.mono (fz_same sp) _ _ _ (fun a ha => ?_) q1))
  obtain ⟨m, ws, q⟩ := Owns.sub _ _ _ q1 a ha
  exact ⟨m, by rw [sp _ _ q, q]⟩
theorem dn_lstO (h : DNA X E es ts) (hl : Nat.ble ts.length sizeLine = true := by rfl) : DN X E (.List es pos) (.l ts) := by
  obtain ⟨ta, a1, a2⟩ := h
  refine ⟨_, pe_lst a1, fun M L H σ Q I k => a2 M L H σ _ I fun vs H1 F s1 nF hF q1 => ⟨by rw [q1.length]; exact Nat.le_of_ble_eq_true hl, fun p hp => ?_⟩⟩
  have sp : Same H1 (upd H1 p (.lst vs)) := same_new hp
  have hp0 : H p = none := s1.free hp
  have pF : p ∉ F := fun z => by
    obtain ⟨_, ws, q⟩ := Owns.sub _ _ _ q1 p z
    rw [hp] at q; cases q
  refine k _ _ (p :: F) (s1.trans sp) (List.nodup_cons.mpr ⟨pF, nF⟩) (fun a ha => ?_) (.l List.mem_cons_self upd_same (Owns.mono (fz_mono fun a o n e => ⟨fun z => ?_, sp a o e⟩) _ _ _ (fun a ha => ?_) q1))
  · rcases List.mem_cons.mp ha with z | z
    · rw [z]; exact hp0
    · exact hF a z
  · rcases List.mem_cons.mp z with z | z
    · rw [z, hp] at e; cases e
    · exact n z
  · obtain ⟨m, ws, q⟩ := Owns.sub _ _ _ q1 a ha
    exact ⟨List.mem_cons_of_mem _ m, by rw [sp _ _ q, q]⟩
theorem dba_of (h : DA X E es xs) : DBA X E es (xs.map .d) := by
  obtain ⟨ta, a1, a2⟩ := h
  exact ⟨ta, a1, fun M L H σ Q I k => a2 M L H σ _ I fun vs H1 s1 r => k vs H1 [] s1 List.nodup_nil (fun a ha => by cases ha) (Owns.ofRA r)⟩
theorem dba_d (ha : DE X E e x) (hb : DBA X E es ts) (hs : starEach (e :: es) X.env = (false, eval e X.env) :: starEach es X.env := by rfl) : DBA X E (e :: es) (.d x :: ts) := by
  obtain ⟨ta, a1, a2⟩ := ha
  obtain ⟨tb, b1, b2⟩ := hb
  refine ⟨_, pa_cons a1 b1 hs, fun M L H σ Q I k => a2 M L H σ _ I fun v H1 s1 r1 => b2 M L H1 σ _ (I.same s1) fun vs H2 F s2 nF hF o => ?_⟩
  exact k (v :: vs) H2 F (s1.trans s2) nF hF (Owns.cons (F := []) (.d (R.same (fz_same s2) _ _ r1)) o)
theorem dba_o (ha : DB X E e t) (hb : DA X E es xs) (hs : starEach (e :: es) X.env = (false, eval e X.env) :: starEach es X.env := by rfl) : DBA X E (e :: es) (t :: xs.map .d) := by
  obtain ⟨ta, a1, a2⟩ := ha
  obtain ⟨tb, b1, b2⟩ := hb
  refine ⟨_, pa_cons a1 b1 hs, fun M L H σ Q I k => a2 M L H σ _ I fun v H1 F s1 nF hF o => b2 M L H1 σ _ (I.same s1) fun vs H2 s2 r2 => ?_⟩
  have o2 : Own X.K (L ++ M) H2 v t F := Own.mono (fz_same s2) _ _ _ (fun a ha => by
    obtain ⟨h1, ws, h2⟩ := Own.sub _ _ _ o a ha
    exact ⟨h1, eq_same s2 h2⟩) o
  refine k (v :: vs) H2 (F ++ []) (s1.trans s2) (by simpa using nF) (fun a ha => hF a (by simpa using ha)) (.cons o2 (Owns.ofRA r2))
theorem db_tup {x1} (h : DBA X E es ts) (hl : Nat.ble ts.length sizeLine = true := by rfl) : DB X E (.Tuple es x1 pos) (.t ts) := by
  obtain ⟨ta, a1, a2⟩ := h
  refine ⟨_, pe_tup a1, fun M L H σ Q I k => a2 M L H σ _ I fun vs H1 F s1 nF hF q1 => ⟨by rw [q1.length]; exact Nat.le_of_ble_eq_true hl, fun p hp => ?_⟩⟩
  have sp : Same H1 (upd H1 p (.tup vs)) := same_new hp
  have np : p ∉ L ++ M := fun z => (I.same s1).dom p z hp
  refine k _ _ F (s1.trans sp) nF hF (.t (by rw [fz_of np]; exact upd_same) (Owns.mono (fz_same sp) _ _ _ (fun a ha => ?_) q1))
  obtain ⟨m, ws, q⟩ := Owns.sub _ _ _ q1 a ha
  exact ⟨m, by rw [sp _ _ q, q]⟩
end
/-! ### an expression that stands for a path of a name -/
structure DP (X : Cx) (E : List Sl) (e : Expr) (i : Nat) (p : List Nat) : Prop where
  ex : ∃ te, PE X e te ∧ ∀ (M L : List Addr) (H : Hp) (σ : L2.St) (Q : VK), EnvR X.K M L H σ E → (∀ v H', Same H H' → (∃ u, σ[i]? = some (some u) ∧ At H' u p v) → Q v H') → te σ H Q
section
variable {X : Cx} {W : WX} {E E' : List Sl} {e a b c obj : Expr} {es : List Expr} {x y z : PyData} {xs : List PyData} {pos : Pos} {t u : OT} {ts : List OT} {i : Nat} {p : List Nat} {n : Int} {j : Nat} {P : Out → Prop}
theorem dp_v (i : Nat) (h : PE X e (tVar i)) (g : E[i]? = some (.o t) := by rfl) : DP X E e i [] := ⟨_, h, fun M L H σ Q I k => by
  obtain ⟨v, G, h1, _⟩ := I.get g
  exact ⟨v, h1, k v H (Same.refl H) ⟨v, h1, .nil⟩⟩⟩
theorem dp_ixL (hp : DP X E a i p) (hb : DE X E b (.int n)) (g : E[i]? = some (.o t)) (hs : t.sub p = some (.l ts)) (hj : ixN ts.length n = some j) (hx : PlainIx b := by exact fun _ _ => rfl) : DP X E (.Subscript a b pos) i (p ++ [j]) := by
  obtain ⟨ta, a1, a2⟩ := hp
  obtain ⟨tb, b1, b2⟩ := hb
  refine ⟨_, pe_ix ix_list a1 b1 hx, fun M L H σ Q I k => a2 M L H σ _ I fun v H1 s1 ⟨z, hz, at1⟩ => b2 M L H1 σ _ (I.same s1) fun w H2 s2 r2 => ?_⟩
  cases r2
  have I2 := (I.same s1).same s2
  obtain ⟨z', G, g1, g2, g3, g4⟩ := I2.get g
  rw [hz] at g1
  cases g1
  obtain ⟨w, G2, t1, t2, t3, t4⟩ := Own.trace p g2 g4 hs
  have ev := (at1.same s2).det t1
  subst ev
  cases t2 with
  | @l q vs _ _ hq hl ho =>
    have hlen := ho.length
    have hj' := ixN_seq hj
    obtain ⟨tt, htt⟩ : ∃ tt, ts[j]? = some tt := ⟨ts[j]'hj'.2.1, List.getElem?_eq_getElem hj'.2.1⟩
    obtain ⟨x, G3, e1, e2, _⟩ := ho.get htt
    have e3 : atI vs n = some x := by
      unfold atI
      rw [hlen, hj]
      exact e1
    exact ⟨q, vs, n, x, rfl, rfl, .inl (.inl hl), e3, k _ H2 (s1.trans s2) ⟨z, hz, t1.snocL hl e1⟩⟩
theorem dp_ixT (hp : DP X E a i p) (hb : DE X E b (.int n)) (g : E[i]? = some (.o t)) (hs : t.sub p = some (.t ts)) (hj : ixN ts.length n = some j := by rfl) (hx : PlainIx b := by exact fun _ _ => rfl) : DP X E (.Subscript a b pos) i (p ++ [j]) := by
  obtain ⟨ta, a1, a2⟩ := hp
  obtain ⟨tb, b1, b2⟩ := hb
  refine ⟨_, pe_ix ix_tup a1 b1 hx, fun M L H σ Q I k => a2 M L H σ _ I fun v H1 s1 ⟨z, hz, at1⟩ => b2 M L H1 σ _ (I.same s1) fun w H2 s2 r2 => ?_⟩
  cases r2
  have I2 := (I.same s1).same s2
  obtain ⟨z', G, g1, g2, g3, g4⟩ := I2.get g
  rw [hz] at g1
  cases g1
  obtain ⟨w, G2, t1, t2, t3, t4⟩ := Own.trace p g2 g4 hs
  have ev := (at1.same s2).det t1
  subst ev
  cases t2 with
  | @t q vs _ _ hl ho =>
    have hlen := ho.length
    have hj' := ixN_seq hj
    obtain ⟨tt, htt⟩ : ∃ tt, ts[j]? = some tt := ⟨ts[j]'hj'.2.1, List.getElem?_eq_getElem hj'.2.1⟩
    obtain ⟨x, G3, e1, e2, _⟩ := ho.get htt
    have e3 : atI vs n = some x := by
      unfold atI
      rw [hlen, hj]
      exact e1
    exact ⟨q, vs, n, x, rfl, rfl, .inl (.inl (fz_sub _ _ hl)), e3, k _ H2 (s1.trans s2) ⟨z, hz, t1.snocT (fz_sub _ _ hl) e1⟩⟩
theorem fresh_own {K : PySem.W.Frag} {L M F : List Addr} {H H1 : Hp} {v : V} {u : OT} (s : Same H H1) (hF : ∀ a ∈ F, H a = none) (o : Own K (F ++ (L ++ M)) H1 v u F) : (∀ a ∈ F, H a = none ∧ H1 a ≠ none) ∧ Same (fz (L ++ M) H) (fz (F ++ (L ++ M)) H1) := by
  refine ⟨fun a ha => ⟨hF a ha, fun z => ?_⟩, fz_mono fun a o n q => ⟨fun z => ?_, s a o q⟩⟩
  · obtain ⟨_, ws, q⟩ := Own.sub _ _ _ o a ha
    rw [q] at z; cases z
  · rcases List.mem_append.mp z with z | z
    · rw [hF a z] at q; cases q
    · exact n z
/-- obj.append(e) -/
theorem ds_appendP {ap cp : Pos} (ho : DP X E obj i p) (he : DN X E e u) (g : E[i]? = some (.o t)) (hs : t.sub p = some (.l ts)) (hl : ts.length < sizeLine) (hE : E.set i (.o (t.put p (.l (ts ++ [u])))) = E')
    (hbase : attributeBase obj "append" X.env (eval obj X.env) = eval obj X.env := by rfl)
    (hfew : ((backTo cp (starEach [e] X.env)).all (fun x => !x.1) && (backToKw cp (keywordEach [] X.env)).all (fun x => x.1.isSome) && decide ([e].length + ([] : List Keyword).length + (if ([] : List Keyword).isEmpty then 0 else 1) < 30)) = true := by rfl)
    (hline : (ap.endLine == cp.line) = true := by rfl) (hst : starEach [e] X.env = (false, eval e X.env) :: starEach [] X.env := by rfl) (hplain : (backTo cp (starEach [] X.env)).any (·.1) = false := by rfl)
    (hsw : swapsWith (.Call (.Attribute obj "append" ap) [e] [] cp) none pos.line X.env = pure false := by rfl) :
    DS X W (.Expr (.Call (.Attribute obj "append" ap) [e] [] cp) pos) E (th (· = E') P) := by
  obtain ⟨ta, a1, a2⟩ := ho
  obtain ⟨te, e1, e2⟩ := he
  refine ⟨fun M L H σ D I k => ⟨_, ps_expr (pe_bm PySem.F.plainAttrs_list PySem.F.slot_list_append PySem.F.type_list_append mt_append a1 (pa_cons e1 pa_nil hst) hbase hfew hline hst hplain) hsw, a2 M L H σ _ I fun v H0 s0 ⟨z, hz, at0⟩ => ?_⟩⟩
  have I0 := I.same s0
  obtain ⟨z', q, vs, G, h1, h2, h3, h4, h5, h6, h7, h8⟩ := I0.mutP g hs
  rw [hz] at h1
  cases h1
  have ev := at0.det h2
  subst ev
  refine ⟨.inl ⟨rfl, vs, .inl (.inl h3)⟩, ?_⟩
  refine e2 M L H0 σ _ I0 fun w H1 F s1 nF hF o => ?_
  obtain ⟨f1, f2⟩ := fresh_own s1 hF o
  have m : Owns X.K (F ++ (L ++ M)) H1 vs ts G := Owns.mono f2 _ _ _ (fun a ha => by
    obtain ⟨y1, ws, y2⟩ := Owns.sub _ _ _ h4 a ha
    exact ⟨List.mem_append_right _ y1, by rw [s1 _ _ y2, y2]⟩) h4
  obtain ⟨q1, q2⟩ := h8 H1 F s1 f1 (vs ++ [w]) (ts ++ [u]) (G ++ (F ++ [])) (m.append (.cons o .nil)) (List.nodup_append.mpr ⟨h5, by simpa using nF, fun a ha b hb y => by
      obtain ⟨_, ws, y2⟩ := Owns.sub _ _ _ h4 a ha
      rw [y, hF b (by simpa using hb)] at y2
      cases y2⟩) (fun a ha => by
      rcases List.mem_append.mp ha with y | y
      · exact .inl y
      · exact .inr (by simpa using y))
  exact ⟨q, vs, w, rfl, rfl, s1 _ _ h3, by rw [h4.length]; exact hl, k.nx E' (F ++ L) _ σ rfl ((Step.same s0).trans q2) (hE ▸ q1)⟩
/-- obj.clear() -/
theorem ds_clearP {ap cp : Pos} (ho : DP X E obj i p) (g : E[i]? = some (.o t)) (hs : t.sub p = some (.l ts)) (hE : E.set i (.o (t.put p (.l []))) = E')
    (hbase : attributeBase obj "clear" X.env (eval obj X.env) = eval obj X.env := by rfl) (hline : (ap.endLine == cp.line) = true := by rfl)
    (hsw : swapsWith (.Call (.Attribute obj "clear" ap) [] [] cp) none pos.line X.env = pure false := by rfl) :
    DS X W (.Expr (.Call (.Attribute obj "clear" ap) [] [] cp) pos) E (th (· = E') P) := by
  obtain ⟨ta, a1, a2⟩ := ho
  refine ⟨fun M L H σ D I k => ⟨_, ps_expr (pe_bm0 PySem.F.plainAttrs_list PySem.F.slot_list_clear PySem.F.type_list_clear mt_clear a1 hbase hline) hsw, a2 M L H σ _ I fun v H0 s0 ⟨z, hz, at0⟩ => ?_⟩⟩
  have I0 := I.same s0
  obtain ⟨z', q, vs, G, h1, h2, h3, h4, h5, h6, h7, h8⟩ := I0.mutP g hs
  rw [hz] at h1
  cases h1
  have ev := at0.det h2
  subst ev
  obtain ⟨q1, q2⟩ := h8 H0 [] (Same.refl _) (fun a ha => by cases ha) [] [] [] .nil List.nodup_nil (fun a ha => by cases ha)
  exact ⟨.inl ⟨rfl, vs, .inl (.inl h3)⟩, q, vs, rfl, rfl, h3, k.nx E' L _ σ rfl ((Step.same s0).trans q2) (hE ▸ q1)⟩
end
end D

end

section
set_option Elab.async false
set_option linter.all false
set_option autoImplicit false
set_option maxRecDepth 100000
set_option maxHeartbeats 2000000
namespace D
open PySem L2 PySem.Spec PyProof.Rows
theorem Owns.setO {K : PySem.W.Frag} {W : List Addr} {H : Hp} {w : V} {u : OT} {G : List Addr} (o : Own K W H w u G) (nG : G.Nodup) : ∀ {ts : List OT} {vs : List V} {F : List Addr} (j : Nat), Owns K W H vs ts F → F.Nodup → (∀ a ∈ G, a ∉ F) → ∃ F', Owns K W H (vs.set j w) (ts.set j u) F' ∧ F'.Nodup ∧ ∀ a ∈ F', a ∈ F ∨ a ∈ G
  | [], _, _, j, h, nF, dj => by cases h; exact ⟨[], .nil, List.nodup_nil, fun a ha => by cases ha⟩
  | t :: ts, _, _, 0, h, nF, dj => by
    cases h with
    | @cons v _ F1 vs _ F2 h1 h2 =>
      obtain ⟨n1, n2, n3⟩ := List.nodup_append.mp nF
      exact ⟨G ++ F2, .cons o h2, List.nodup_append.mpr ⟨nG, n2, fun a ha b hb q => dj a ha (q ▸ List.mem_append_right _ hb)⟩, fun a ha => (List.mem_append.mp ha).elim .inr fun z => .inl (List.mem_append_right _ z)⟩
  | t :: ts, _, _, j + 1, h, nF, dj => by
    cases h with
    | @cons v _ F1 vs _ F2 h1 h2 =>
      obtain ⟨n1, n2, n3⟩ := List.nodup_append.mp nF
      obtain ⟨F', k1, k2, k3⟩ := Owns.setO o nG (ts := ts) j h2 n2 fun a ha z => dj a ha (List.mem_append_right _ z)
      refine ⟨F1 ++ F', .cons h1 k1, List.nodup_append.mpr ⟨n1, k2, fun a ha b hb q => ?_⟩, fun a ha => ?_⟩
      · rcases k3 b hb with z | z
        · exact n3 a ha b z q
        · exact dj b z (q ▸ List.mem_append_left _ ha)
      · rcases List.mem_append.mp ha with z | z
        · exact .inl (List.mem_append_left _ z)
        · exact (k3 a z).imp (List.mem_append_right _) id
section
variable {X : Cx} {W : WX} {E E' : List Sl} {e a b c obj : Expr} {es : List Expr} {x y z : PyData} {xs : List PyData} {pos : Pos} {t u : OT} {ts : List OT} {i : Nat} {p : List Nat} {n : Int} {j : Nat} {P : Out → Prop}
/-- obj[b] = e -/
theorem ds_setixP {sp : Pos} (ho : DP X E obj i p) (he : DN X E e u) (hi : DE X E b (.int n)) (g : E[i]? = some (.o t)) (hsub : t.sub p = some (.l ts)) (hj : ixN ts.length n = some j) (hE : E.set i (.o (t.put p (.l (ts.set j u)))) = E')
    (ha : ∀ v, assign (.Subscript obj b sp) X.env v = (do
      let ov ← holding [v] (eval obj X.env)
      let iv ← holding [v, ov] (eval b X.env)
      standAt sp
      holding [v, ov, iv] (setItem ov iv v)
      release [v, ov, iv] []) := by intro _; rfl)
    (hs : swapsWithSole [.Subscript obj b sp] e pos.line X.env = pure false := by rfl) (hw : swappedStores [.Subscript obj b sp] e X.env = pure none := by rfl) (h1 : (assignEach [.Subscript obj b sp] X.env).map (·.2) = [assign (.Subscript obj b sp) X.env] := by rfl) :
    DS X W (.Assign [.Subscript obj b sp] e pos) E (th (· = E') P) := by
  obtain ⟨ta, a1, a2⟩ := ho
  obtain ⟨te, e1, e2⟩ := he
  obtain ⟨ti, i1, i2⟩ := hi
  refine ⟨fun M L H σ D I kk => ⟨_, ps_asg e1 (pg_sub a1 i1 set_list ha) hs hw h1, e2 M L H σ _ I fun w H1 F s1 nF hF o => ?_⟩⟩
  obtain ⟨z0, q, vs, G, m1, m2, m3, m4, m5, m6, m7, m8⟩ := I.mutP g hsub
  have I1 : EnvR X.K M (F ++ L) H1 σ E := I.more s1 (fresh_own s1 hF o).1
  refine a2 M (F ++ L) H1 σ _ I1 fun v H2 s2 ⟨z, hz, at0⟩ => i2 M (F ++ L) H2 σ _ (I1.same s2) fun k H3 s3 r3 => ?_
  cases r3
  rw [hz] at m1
  cases m1
  have s13 := s2.trans s3
  have s03 := s1.trans s13
  have ev := (at0.same s3).det (m2.same s03)
  subst ev
  have o3 : Own X.K (F ++ (L ++ M)) H3 w u F := Own.mono (fz_same s13) _ _ _ (fun a ha => by
    obtain ⟨y1, ws, y2⟩ := Own.sub _ _ _ o a ha
    exact ⟨y1, by rw [s13 _ _ y2, y2]⟩) o
  obtain ⟨f1, f2⟩ := fresh_own s03 hF o3
  have m : Owns X.K (F ++ (L ++ M)) H3 vs ts G := Owns.mono f2 _ _ _ (fun a ha => by
    obtain ⟨y1, ws, y2⟩ := Owns.sub _ _ _ m4 a ha
    exact ⟨List.mem_append_right _ y1, by rw [s03 _ _ y2, y2]⟩) m4
  obtain ⟨G', g1, g2, g3⟩ := Owns.setO o3 nF j m m5 fun a ha y => by
    obtain ⟨_, ws, y2⟩ := Owns.sub _ _ _ m4 a y
    rw [hF a ha] at y2
    cases y2
  obtain ⟨q1, q2⟩ := m8 H3 F s03 f1 (vs.set j w) (ts.set j u) G' g1 g2 g3
  exact ⟨q, vs, n, j, rfl, rfl, s03 _ _ m3, by rw [m4.length]; exact hj, kk.nx E' (F ++ L) _ σ rfl q2 (hE ▸ q1)⟩
end
/-! ### how typed things are owned: shapes -/
abbrev oD {α : Type} (f : α → PyData) : α → OT := fun x => .d (f x)
abbrev oS {α : Type} (g : α → OT) (xs : List α) : OT := .l (xs.map g)
abbrev oP {α β : Type} (f : α → OT) (g : β → OT) (p : α × β) : OT := .t [f p.1, g p.2]
abbrev oH {α β : Type} (f : α → OT) (g : β → OT) (p : α × β) : OT := .l [f p.1, g p.2]
theorem oL_eq {α : Type} (f : α → PyData) (xs : List α) : oL f xs = oS (oD f) xs := by
  show OT.l _ = OT.l _
  rw [List.map_map]
  rfl
theorem dats_map {α : Type} {g : α → OT} {f : α → PyData} (h : ∀ x, (g x).dat = f x) : ∀ xs : List α, dats (xs.map g) = xs.map f
  | [] => rfl
  | x :: xs => by
    show (g x).dat :: dats (xs.map g) = f x :: xs.map f
    rw [h x, dats_map h xs]
/-- it is f as data -/
def Dat {α : Type} (g : α → OT) (f : α → PyData) : Prop := ∀ x, (g x).dat = f x
theorem dat_D {α : Type} (f : α → PyData) : Dat (oD f) f := fun _ => rfl
theorem dat_L {α : Type} (f : α → PyData) : Dat (oL f) (eL f) := dat_oL f
theorem dat_S {α : Type} {g : α → OT} {f : α → PyData} (h : Dat g f) : Dat (oS g) (eL f) := fun xs => by
  show PyData.list _ = PyData.list _
  rw [dats_map h]
theorem dat_P {α β : Type} {g : α → OT} {g' : β → OT} {f : α → PyData} {f' : β → PyData} (h : Dat g f) (h' : Dat g' f') : Dat (oP g g') (eP f f') := fun x => by
  show PyData.tuple [(g x.1).dat, (g' x.2).dat] = _
  rw [h, h']
section
variable {X : Cx} {W : WX} {sts : List Stmt} {E E' : List Sl} {e : Expr} {x : PyData} {b : Bool} {P : Out → Prop} {α β : Type} {f : α → PyData} {g : α → OT} {v : α}
theorem DN.toS (d : Dat g f) (h : DN X E e (g v)) : DE X E e (f v) := d v ▸ h.toE
theorem ds_freezeS (i : Nat) (d : Dat g f) (hg : E[i]? = some (.o (g v))) (hE : E.set i (.o (.d (f v))) = E') (h : DSs X W sts E' P) : DSs X W sts E P := ds_freeze i hg (by rw [d v]; exact hE) h
theorem de_borrowS (i : Nat) (d : Dat g f) (hg : E[i]? = some (.o (g v))) (h : DE X (E.set i (.o (.d (f v)))) e x) (hf : flat x = true := by rfl) : DE X E e x := de_borrow i hg (by rw [d v]) h hf
theorem dt_borrowS (i : Nat) (d : Dat g f) (hg : E[i]? = some (.o (g v))) (h : DT X (E.set i (.o (.d (f v)))) e b) : DT X E e b := dt_borrow i hg (by rw [d v]) h
end
/-! ### what is new and flat does not hold what was borrowed -/
mutual
def oflat : OT → Bool
  | .d x => flat x
  | .l ts => oflats ts
  | .t ts => oflats ts
def oflats : List OT → Bool
  | [] => true
  | t :: ts => oflat t && oflats ts
end
mutual
theorem Own.flat {K : PySem.W.Frag} {W W' : List Addr} {H : Hp} (h : ∀ a o, a ∉ W' → H a = some o → a ∉ W ∨ ∃ xs, o = .lst xs) : ∀ (x : OT) (v : V) (F : List Addr), (∀ a ∈ F, a ∈ W) → oflat x = true → Own K W' H v x F → Own K W H v x F
  | .d x, v, F, hF, n, o => by
    cases o with
    | d r => exact .d (R.flat h x v (by simpa [oflat] using n) r)
  | .l ts, v, F, hF, n, o => by
    cases o with
    | l hp hl ho => exact .l (hF _ List.mem_cons_self) hl (Owns.flat h ts _ _ (fun a ha => hF a (List.mem_cons_of_mem _ ha)) (by simpa [oflat] using n) ho)
  | .t ts, v, F, hF, n, o => by
    cases o with
    | t hl ho =>
      refine .t ?_ (Owns.flat h ts _ _ hF (by simpa [oflat] using n) ho)
      obtain ⟨n1, q1⟩ := fz_some hl
      rcases h _ _ n1 q1 with z | ⟨xs, z⟩
      · rw [fz_of z]; exact q1
      · cases z
theorem Owns.flat {K : PySem.W.Frag} {W W' : List Addr} {H : Hp} (h : ∀ a o, a ∉ W' → H a = some o → a ∉ W ∨ ∃ xs, o = .lst xs) : ∀ (xs : List OT) (vs : List V) (F : List Addr), (∀ a ∈ F, a ∈ W) → oflats xs = true → Owns K W' H vs xs F → Owns K W H vs xs F
  | [], _, _, hF, n, o => by cases o; exact .nil
  | x :: xs, _, _, hF, n, o => by
    have n' : oflat x = true ∧ oflats xs = true := by simpa [oflats] using n
    cases o with
    | cons o1 o2 => exact .cons (Own.flat h x _ _ (fun a ha => hF a (List.mem_append_left _ ha)) n'.1 o1) (Owns.flat h xs _ _ (fun a ha => hF a (List.mem_append_right _ ha)) n'.2 o2)
end
theorem dn_borrowO {X : Cx} {E E' : List Sl} {e : Expr} {t u : OT} (i : Nat) (g : E[i]? = some (.o t)) (hE : E.set i (.o (.d t.dat)) = E') (h : DN X E' e u) (hf : oflat u = true) : DN X E e u := by
  obtain ⟨te, e1, e2⟩ := h
  subst hE
  refine ⟨te, e1, fun M L H σ Q I k => ?_⟩
  obtain ⟨L', I', _, h1, h2⟩ := I.freeze g
  refine e2 M L' H σ Q I' fun v H' F s nF hF o => k v H' F s nF hF (Own.flat (fun a o n q => ?_) _ _ _ (fun a ha => List.mem_append_left _ ha) hf o)
  have n1 : a ∉ F := fun z => n (List.mem_append_left _ z)
  have n2 : a ∉ L' ++ M := fun z => n (List.mem_append_right _ z)
  rcases flat_back (K := X.K) s h1 h2 a o n2 q with z | z
  · exact .inl fun m => (List.mem_append.mp m).elim n1 z
  · exact .inr z
theorem oflats_map {α : Type} {g : α → OT} (h : ∀ y, oflat (g y) = true) : ∀ ys : List α, oflats (ys.map g) = true
  | [] => rfl
  | y :: ys => by
    show (oflat (g y) && oflats (ys.map g)) = true
    rw [h y, oflats_map h ys]
    rfl
/-! ### two typed things told alike -/
structure EqE {α : Type} [DecidableEq α] (n : Nat) (f : α → PyData) : Prop where
  nd : ∀ a, noDict (f a) = true
  lay : ∀ a, (f a).canLay0 = true
  dep : ∀ a, (f a).depth ≤ n
  eq : ∀ a b, PyData.eqv (f a) (f b) = decide (a = b)
instance {α β γ : Type} [DecidableEq α] [DecidableEq β] [DecidableEq γ] : DecidableEq (T3 α β γ) := fun x y => decidable_of_iff (x.a = y.a ∧ x.b = y.b ∧ x.c = y.c) (by cases x; cases y; simp)
instance {α β γ δ : Type} [DecidableEq α] [DecidableEq β] [DecidableEq γ] [DecidableEq δ] : DecidableEq (T4 α β γ δ) := fun x y => decidable_of_iff (x.a = y.a ∧ x.b = y.b ∧ x.c = y.c ∧ x.d = y.d) (by cases x; cases y; simp)
instance {α β γ δ ε : Type} [DecidableEq α] [DecidableEq β] [DecidableEq γ] [DecidableEq δ] [DecidableEq ε] : DecidableEq (T5 α β γ δ ε) := fun x y => decidable_of_iff (x.a = y.a ∧ x.b = y.b ∧ x.c = y.c ∧ x.d = y.d ∧ x.e = y.e) (by cases x; cases y; simp)
theorem eqE_int : EqE 0 PyData.int := ⟨fun _ => rfl, fun _ => rfl, fun _ => Nat.le_refl 0, fun a b => by
  show (a == b) = decide (a = b)
  rfl⟩
theorem eqE_bool : EqE 0 PyData.bool := ⟨fun _ => rfl, fun _ => rfl, fun _ => Nat.le_refl 0, fun a b => by
  show (a == b) = decide (a = b)
  cases a <;> cases b <;> rfl⟩
theorem depth_two (x y : PyData) {n : Nat} (h1 : x.depth ≤ n) (h2 : y.depth ≤ n) : (PyData.tuple [x, y]).depth ≤ n + 1 := by
  show max x.depth (max y.depth 0) + 1 ≤ n + 1
  omega
theorem eqE_P {α β : Type} [DecidableEq α] [DecidableEq β] {m n : Nat} {f : α → PyData} {g : β → PyData} (hf : EqE m f) (hg : EqE n g) : EqE (max m n + 1) (eP f g) := by
  refine ⟨fun p => ?_, fun p => ?_, fun p => ?_, fun p q => ?_⟩
  · show (noDict (f p.1) && (noDict (g p.2) && true)) = true
    rw [hf.nd, hg.nd]; rfl
  · show ((f p.1).canLay0 && ((g p.2).canLay0 && true)) = true
    rw [hf.lay, hg.lay]; rfl
  · have h1 := hf.dep p.1
    have h2 := hg.dep p.2
    show max (f p.1).depth (max (g p.2).depth 0) + 1 ≤ _
    omega
  · show (PyData.eqv (f p.1) (f q.1) && (PyData.eqv (g p.2) (g q.2) && true)) = decide (p = q)
    rw [hf.eq, hg.eq, Bool.and_true]
    obtain ⟨a, b⟩ := p
    obtain ⟨c, d⟩ := q
    rw [← Bool.decide_and, decide_eq_decide]
    simp
theorem eqE_T5 {α β γ δ ε : Type} [DecidableEq α] [DecidableEq β] [DecidableEq γ] [DecidableEq δ] [DecidableEq ε] {m n o p q : Nat} {f : α → PyData} {g : β → PyData} {h : γ → PyData} {k : δ → PyData} {l : ε → PyData} (hf : EqE m f) (hg : EqE n g) (hh : EqE o h) (hk : EqE p k) (hl : EqE q l) : EqE (m + n + o + p + q + 1) (eT5 f g h k l) := by
  refine ⟨fun p => ?_, fun p => ?_, fun p => ?_, fun x y => ?_⟩
  · show (noDict (f p.a) && (noDict (g p.b) && (noDict (h p.c) && (noDict (k p.d) && (noDict (l p.e) && true))))) = true
    rw [hf.nd, hg.nd, hh.nd, hk.nd, hl.nd]; rfl
  · show ((f p.a).canLay0 && ((g p.b).canLay0 && ((h p.c).canLay0 && ((k p.d).canLay0 && ((l p.e).canLay0 && true))))) = true
    rw [hf.lay, hg.lay, hh.lay, hk.lay, hl.lay]; rfl
  · have h1 := hf.dep p.a
    have h2 := hg.dep p.b
    have h3 := hh.dep p.c
    have h4 := hk.dep p.d
    have h5 := hl.dep p.e
    show max (f p.a).depth (max (g p.b).depth (max (h p.c).depth (max (k p.d).depth (max (l p.e).depth 0)))) + 1 ≤ _
    omega
  · show (PyData.eqv (f x.a) (f y.a) && (PyData.eqv (g x.b) (g y.b) && (PyData.eqv (h x.c) (h y.c) && (PyData.eqv (k x.d) (k y.d) && (PyData.eqv (l x.e) (l y.e) && true))))) = decide (x = y)
    rw [hf.eq, hg.eq, hh.eq, hk.eq, hl.eq, Bool.and_true]
    obtain ⟨a, b, c, d, e⟩ := x
    obtain ⟨a', b', c', d', e'⟩ := y
    rw [← Bool.decide_and, ← Bool.decide_and, ← Bool.decide_and, ← Bool.decide_and, decide_eq_decide]
    simp
theorem eqE_L {α : Type} [DecidableEq α] {n : Nat} {f : α → PyData} (hf : EqE n f) : EqE (n + 1) (eL f) := by
  refine ⟨fun xs => ?_, fun xs => ?_, fun xs => ?_, fun xs ys => ?_⟩
  · show noDicts (xs.map f) = true
    induction xs with
    | nil => rfl
    | cons x xs ih =>
      show (noDict (f x) && noDicts (xs.map f)) = true
      rw [hf.nd, ih]; rfl
  · show PyData.canLayAll0 (xs.map f) = true
    induction xs with
    | nil => rfl
    | cons x xs ih =>
      show ((f x).canLay0 && PyData.canLayAll0 (xs.map f)) = true
      rw [hf.lay, ih]; rfl
  · show PyData.depthAll (xs.map f) + 1 ≤ n + 1
    have : PyData.depthAll (xs.map f) ≤ n := by
      induction xs with
      | nil => exact Nat.zero_le _
      | cons x xs ih =>
        show max (f x).depth (PyData.depthAll (xs.map f)) ≤ n
        have := hf.dep x
        omega
    omega
  · show PyData.eqvAll (xs.map f) (ys.map f) = decide (xs = ys)
    induction xs generalizing ys with
    | nil => cases ys <;> rfl
    | cons x xs ih =>
      cases ys with
      | nil => rfl
      | cons y ys =>
        show (PyData.eqv (f x) (f y) && PyData.eqvAll (xs.map f) (ys.map f)) = _
        rw [hf.eq, ih, ← Bool.decide_and, decide_eq_decide]
        simp
theorem EqE.shaped {α : Type} [DecidableEq α] {n : Nat} {f : α → PyData} (h : EqE n f) (hn : n ≤ 64) (a : α) : SeqAt.shaped (f a) = true := by
  unfold SeqAt.shaped
  rw [h.lay a, decide_eq_true (Nat.le_trans (h.dep a) hn)]
  rfl
section
variable {X : Cx} {E : List Sl} {a b : Expr} {pos : Pos} {α : Type} [DecidableEq α] {n : Nat} {f : α → PyData} {x y : α}
theorem de_eqT (hu : X.A.units + 64 < cLine) (h : EqE n f) (ha : DE X E a (f x)) (hb : DE X E b (f y)) (hn : Nat.ble n 64 = true := by rfl) : DE X E (.Compare a [.Eq] [b] pos) (.bool (decide (x = y))) :=
  h.eq x y ▸ de_eqD hu ha hb (h.nd x) (h.nd y) (h.shaped (Nat.le_of_ble_eq_true hn) x) (h.shaped (Nat.le_of_ble_eq_true hn) y)
theorem dt_eqT (hu : X.A.units + 64 < cLine) (h : EqE n f) (ha : DE X E a (f x)) (hb : DE X E b (f y)) (hn : Nat.ble n 64 = true := by rfl) : DT X E (.Compare a [.Eq] [b] pos) (decide (x = y)) :=
  h.eq x y ▸ dt_eqD hu ha hb (h.nd x) (h.nd y) (h.shaped (Nat.le_of_ble_eq_true hn) x) (h.shaped (Nat.le_of_ble_eq_true hn) y)
theorem dt_neT (hu : X.A.units + 64 < cLine) (h : EqE n f) (ha : DE X E a (f x)) (hb : DE X E b (f y)) (hn : Nat.ble n 64 = true := by rfl) : DT X E (.Compare a [.NotEq] [b] pos) (!decide (x = y)) :=
  h.eq x y ▸ dt_neD hu ha hb (h.nd x) (h.nd y) (h.shaped (Nat.le_of_ble_eq_true hn) x) (h.shaped (Nat.le_of_ble_eq_true hn) y)
end
end D

end

section
set_option Elab.async false
set_option linter.all false
set_option autoImplicit false
set_option maxRecDepth 100000
set_option maxHeartbeats 2000000
namespace D
open PySem L2 PySem.Spec PyProof.Rows
/-! ### zip of three lists -/
def ItT (K : PySem.W.Frag) (a b c : Addr) : It :=
  ⟨fun i H => ∃ (xs ys zs : List V) (x y u : V), SqL K H a xs ∧ SqL K H b ys ∧ SqL K H c zs ∧ xs[i]? = some x ∧ ys[i]? = some y ∧ zs[i]? = some u,
    fun i H v H' => ∃ T x y u, v = .ref T ∧ H T = none ∧ H' = upd H T (.tup [x, y, u]) ∧ (∀ xs, SqL K H a xs → xs[i]? = some x) ∧ (∀ ys, SqL K H b ys → ys[i]? = some y) ∧ ∀ zs, SqL K H c zs → zs[i]? = some u,
    fun i H => ∃ xs ys zs : List V, SqL K H a xs ∧ SqL K H b ys ∧ SqL K H c zs ∧ i ≤ xs.length ∧ i ≤ ys.length ∧ i ≤ zs.length ∧ (i = xs.length ∨ i = ys.length ∨ i = zs.length)⟩
theorem turnT {P : Program} {w : World} {K : PySem.W.Frag} {elts : List Expr} {kk : Nat} {tpos : Pos} {a b c z TI TO i1 i2 i3 : Addr} (D : ZipSep3 z TI TO i1 i2 i3 [i1, a] [i2, b] [i3, c]) :
    Turn P w K (.Tuple elts kk tpos) (ItT K a b c) [z, TI, TO, i1, i2, i3] z (fun i h => IsZip h z TI TO .none ∧ IsTupOf3 h TI (.ref i1) (.ref i2) (.ref i3) ∧ (∃ x y u, IsTupOf3 h TO x y u) ∧ h.IsListIter i1 a i ∧ h.IsListIter i2 b i ∧ h.IsListIter i3 c i) where
  mem := by simp
  obj := fun i h st d hd => by
    obtain ⟨hz, hTI, ⟨x, y, u, hTO⟩, ⟨o1, e1, _, d1⟩, ⟨o2, e2, _, d2⟩, ⟨o3, e3, _, d3⟩⟩ := st
    have e' : d = z ∨ d = TI ∨ d = TO ∨ d = i1 ∨ d = i2 ∨ d = i3 := by simpa using hd
    rcases e' with q | q | q | q | q | q
    · rw [q]; exact ⟨_, hz, fun v q => nomatch q⟩
    · rw [q]; exact ⟨_, hTI, fun v q => nomatch q⟩
    · rw [q]; exact ⟨_, hTO, fun v q => nomatch q⟩
    · rw [q]; exact ⟨o1, e1, fun v q => by rw [d1] at q; cases q⟩
    · rw [q]; exact ⟨o2, e2, fun v q => by rw [d2] at q; cases q⟩
    · rw [q]; exact ⟨o3, e3, fun v q => by rw [d3] at q; cases q⟩
  keep := fun i h h' st k => by
    obtain ⟨hz, hTI, ⟨x, y, u, hTO⟩, h1, h2, h3⟩ := st
    exact ⟨k z (by simp) _ hz, k TI (by simp) _ hTI, ⟨x, y, u, k TO (by simp) _ hTO⟩, h1.at fun o q => k i1 (by simp) o q, h2.at fun o q => k i2 (by simp) o q, h3.at fun o q => k i3 (by simp) o q⟩
  item := by
    intro X hP hw hK hc i pins s σ H E I hf st hg
    subst hP hw hK
    obtain ⟨hz, hTI, ⟨x0, y0, u0, hTO⟩, h1, h2, h3⟩ := st
    obtain ⟨xs, ys, zs, x, y, u, hqx, hqy, hqz, hx, hy, hu0⟩ := hg
    obtain ⟨its, rv, p, _⟩ := I.list hqx
    obtain ⟨its2, rv2, p2, _⟩ := I.list hqy
    obtain ⟨its3, rv3, p3, _⟩ := I.list hqz
    obtain ⟨v1, hv1, ru1⟩ := rv.get hx
    obtain ⟨v2, hv2, ru2⟩ := rv2.get hy
    obtain ⟨v3, hv3, ru3⟩ := rv3.get hu0
    have hzl : z < s.heap.objs.size := Heap.lt_size hz
    have hh : X.A.in1.handled = none := I.ok.hd hc
    have ne1 : a ≠ i1 := fun q => by obtain ⟨o, e, c1, _⟩ := h1; obtain ⟨o', e', c2, _⟩ := p.isList; rw [q, e] at e'; cases e'; rw [c1] at c2; injection c2 with c3; exact absurd c3 (by decide)
    have ne2 : b ≠ i2 := fun q => by obtain ⟨o, e, c1, _⟩ := h2; obtain ⟨o', e', c2, _⟩ := p2.isList; rw [q, e] at e'; cases e'; rw [c1] at c2; injection c2 with c3; exact absurd c3 (by decide)
    have ne3 : c ≠ i3 := fun q => by obtain ⟨o, e, c1, _⟩ := h3; obtain ⟨o', e', c2, _⟩ := p3.isList; rw [q, e] at e'; cases e'; rw [c1] at c2; injection c2 with c3; exact absurd c3 (by decide)
    have l1 : i < its.toArray.size := by have := (List.getElem?_eq_some_iff.mp hv1).1; simpa using this
    have l2 : i < its2.toArray.size := by have := (List.getElem?_eq_some_iff.mp hv2).1; simpa using this
    have l3 : i < its3.toArray.size := by have := (List.getElem?_eq_some_iff.mp hv3).1; simpa using this
    refine wpAny_pyNext_zipD3_item D (Draws.list hh i1 a ne1 its.toArray) (Draws.list hh i2 b ne2 its2.toArray) (Draws.list hh i3 c ne3 its3.toArray) hz hTI hTO ⟨h1, p.isList⟩ ⟨h2, p2.isList⟩ ⟨h3, p3.isList⟩ l1 l2 l3 fun w1 w2 w3 h' tk q1 q2 q3 z' TO' s1 s2 s3 hT hsz hk => ?_
    obtain rfl : w1 = v1 := by have e : its.toArray[i]? = some v1 := by simpa using hv1
                               rw [e] at q1; cases q1; rfl
    obtain rfl : w2 = v2 := by have e : its2.toArray[i]? = some v2 := by simpa using hv2
                               rw [e] at q2; cases q2; rfl
    obtain rfl : w3 = v3 := by have e : its3.toArray[i]? = some v3 := by simpa using hv3
                               rw [e] at q3; cases q3; rfl
    have hz1 : z ≠ i1 := fun q => D.zf1 (by simp [q])
    have hz2 : z ≠ i2 := fun q => D.zf2 (by simp [q])
    have hz3 : z ≠ i3 := fun q => D.zf3 (by simp [q])
    refine ⟨_, rfl, wpAny_letOwnedTupleGo_zip (s := { s with heap := h', toks := tk }) z' fun h'' z'' sb => ?_⟩
    have hT2 : h''.get? s.heap.objs.size = some { cls := .type "tuple", data := .seq #[w1, w2, w3] } := (sb.2 _ (Nat.ne_of_gt hzl)).trans hT
    have new : ObjOk X.prog X.w (upd H s.heap.objs.size (.tup [x, y, u])) h'' s.heap.objs.size (.tup [x, y, u]) :=
      ⟨by show 3 ≤ sizeLine; decide, [w1, w2, w3], .cons ru1 (.cons ru2 (.cons ru3 .nil)), ⟨_, hT2, rfl, _, rfl⟩⟩
    have I1 : Inv X pins σ (upd H s.heap.objs.size (.tup [x, y, u])) { s with heap := h'', toks := tk } :=
      I.turnedNew (t' := tk) (ch := [z, TI, TO, i1, i2, i3]) (fun d o hb q => (sb.2 d (fun q' => hb (by simp [q']))).trans (hk d o (fun q' => hb (by simp [q'])) (fun q' => hb (by simp [q'])) (fun q' => hb (by simp [q'])) (fun q' => hb (by simp [q'])) (fun q' => hb (by simp [q'])) q)) hf (Nat.le_refl _) new
    refine ⟨.ref s.heap.objs.size, _, I1, rfl, ⟨_, x, y, u, rfl, I.hok.fresh (Nat.le_refl _), rfl, fun l hl => by rw [I.list_inj hl hqx]; exact hx, fun l hl => by rw [I.list_inj hl hqy]; exact hy, fun l hl => by rw [I.list_inj hl hqz]; exact hu0⟩, ⟨z'', ?_, ⟨w1, w2, w3, ?_⟩, ?_, ?_, ?_⟩, fun d hcm => ?_⟩
    · exact (sb.2 _ D.TIz).trans (hk _ _ D.TIz D.TITO D.TIi1 D.TIi2 D.TIi3 hTI)
    · exact (sb.2 _ D.TOz).trans TO'
    · exact s1.1.at fun o q => (sb.2 _ hz1.symm).trans q
    · exact s2.1.at fun o q => (sb.2 _ hz2.symm).trans q
    · exact s3.1.at fun o q => (sb.2 _ hz3.symm).trans q
    · have hlt : d < s.heap.objs.size := by
        have e' : d = z ∨ d = TI ∨ d = TO ∨ d = i1 ∨ d = i2 ∨ d = i3 := by simpa using hcm
        rcases e' with q | q | q | q | q | q
        · rw [q]; exact hzl
        · rw [q]; exact Heap.lt_size hTI
        · rw [q]; exact Heap.lt_size hTO
        · rw [q]; obtain ⟨_, e1, _⟩ := h1; exact Heap.lt_size e1
        · rw [q]; obtain ⟨_, e2, _⟩ := h2; exact Heap.lt_size e2
        · rw [q]; obtain ⟨_, e3, _⟩ := h3; exact Heap.lt_size e3
      rw [upd_ne (Nat.ne_of_lt hlt)]
      exact (hf d hcm).1
  done := by
    intro X hP hw hK hc i pins s σ H E I hf st hg
    subst hP hw hK
    obtain ⟨hz, hTI, ⟨x0, y0, u0, hTO⟩, h1, h2, h3⟩ := st
    obtain ⟨xs, ys, zs, hqx, hqy, hqz, m1, m2, m3, hend⟩ := hg
    obtain ⟨its, rv, p, _⟩ := I.list hqx
    obtain ⟨its2, rv2, p2, _⟩ := I.list hqy
    obtain ⟨its3, rv3, p3, _⟩ := I.list hqz
    have hh : X.A.in1.handled = none := I.ok.hd hc
    have ne1 : a ≠ i1 := fun q => by obtain ⟨o, e, c1, _⟩ := h1; obtain ⟨o', e', c2, _⟩ := p.isList; rw [q, e] at e'; cases e'; rw [c1] at c2; injection c2 with c3; exact absurd c3 (by decide)
    have ne2 : b ≠ i2 := fun q => by obtain ⟨o, e, c1, _⟩ := h2; obtain ⟨o', e', c2, _⟩ := p2.isList; rw [q, e] at e'; cases e'; rw [c1] at c2; injection c2 with c3; exact absurd c3 (by decide)
    have ne3 : c ≠ i3 := fun q => by obtain ⟨o, e, c1, _⟩ := h3; obtain ⟨o', e', c2, _⟩ := p3.isList; rw [q, e] at e'; cases e'; rw [c1] at c2; injection c2 with c3; exact absurd c3 (by decide)
    have n1 := rv.length
    have n2 := rv2.length
    have n3 := rv3.length
    refine wpAny_pyNext_zipD3_end D (Draws.list hh i1 a ne1 its.toArray) (Draws.list hh i2 b ne2 its2.toArray) (Draws.list hh i3 c ne3 its3.toArray) hz hTI hTO ⟨h1, p.isList⟩ ⟨h2, p2.isList⟩ ⟨h3, p3.isList⟩ (by rw [List.size_toArray]; omega) (by rw [List.size_toArray]; omega) (by rw [List.size_toArray]; omega) (by rw [List.size_toArray, List.size_toArray, List.size_toArray]; omega) fun h' tk hk => ?_
    exact ⟨rfl, I.turnedL (t' := tk) (ch := [z, TI, TO, i1, i2, i3]) (fun d o hb q =>
      hk d o (fun q' => hb (by simp [q'])) (fun q' => hb (by simp [q'])) (fun q' => hb (by simp [q'])) (fun q' => hb (by simp [q'])) (fun q' => hb (by simp [q'])) q) hf⟩
  self := fun A i s Q E st h => wpAny_pyIter_zip st.1 h
def iZ3 (K : PySem.W.Frag) (ta : TA) : TI := fun σ H R => ta σ H fun vs H1 => ∃ a b c xs ys zs, vs = [.ref a, .ref b, .ref c] ∧ SqL K H1 a xs ∧ SqL K H1 b ys ∧ SqL K H1 c zs ∧ R (ItT K a b c) H1
theorem pi_zip3 {X : Cx} {e e2 e3 : Expr} {ta : TA} {p pos tpos : Pos} {elts : List Expr} {kk : Nat} (hg : Gl X "zip") (hm : X.mg "zip" = none) (ha : PA X [e, e2, e3] ta)
    (hs : starEach [e, e2, e3] X.env = (false, eval e X.env) :: starEach [e2, e3] X.env := by rfl) (hpl : (backTo pos (starEach [e2, e3] X.env)).any (·.1) = false := by rfl) :
    PI X (.Tuple elts kk tpos) (.Call (.Name "zip" p) [e, e2, e3] [] pos) (iZ3 X.K ta) := by
  refine ⟨fun pins s σ H R I h => ?_⟩
  refine Call_ (ld_blt I hg hm PyProof.Rows.boot_zip (PyProof.Rows.callWith_type1 (thn (ha.run pos pins s σ H _ I h) fun us s1 ⟨vs, H1, I1, r1, q1⟩ => ?_) hs hpl))
  obtain ⟨a, b, c, xs, ys, zs, ex, hqx, hqy, hqz, q⟩ := q1
  subst ex
  cases r1 with
  | cons r rr =>
    cases rr with
    | cons r' rr =>
      cases rr with
      | cons r'' rr =>
        cases rr
        cases r
        cases r'
        cases r''
        obtain ⟨its, rv, p1, _⟩ := I1.list hqx
        obtain ⟨its2, rv2, p2, _⟩ := I1.list hqy
        obtain ⟨its3, rv3, p3, _⟩ := I1.list hqz
        have la : a < s1.heap.objs.size := p1.lt
        have lb : b < s1.heap.objs.size := p2.lt
        have lc : c < s1.heap.objs.size := p3.lt
        refine zip_begins3 (begins_list a its.toArray) (begins_list b its2.toArray) (begins_list c its3.toArray) p1.isList p2.isList p3.isList fun h' hz hTI hTO h1 h2 h3 hsz hk => wpAny_pyIter_zip hz ?_
        have I2 : Inv X pins σ H1 { s1 with heap := h' } := I1.kept (t' := s1.toks) hk
        refine ⟨s1.heap.objs.size + 5, [s1.heap.objs.size + 5, s1.heap.objs.size + 3, s1.heap.objs.size + 4, s1.heap.objs.size, s1.heap.objs.size + 1, s1.heap.objs.size + 2], _, _, H1, rfl, I2, turnT (zip_sep3 (fp1 := [a]) (fp2 := [b]) (fp3 := [c]) (by simpa using la) (by simpa using lb) (by simpa using lc)), ⟨hz, hTI, ⟨_, _, _, hTO⟩, ⟨_, h1, rfl, rfl⟩, ⟨_, h2, rfl, rfl⟩, ⟨_, h3, rfl, rfl⟩⟩, fun d hcm => ?_, q⟩
        have hle : s1.heap.objs.size ≤ d := by
          have e' : d = s1.heap.objs.size + 5 ∨ d = s1.heap.objs.size + 3 ∨ d = s1.heap.objs.size + 4 ∨ d = s1.heap.objs.size ∨ d = s1.heap.objs.size + 1 ∨ d = s1.heap.objs.size + 2 := by simpa using hcm
          rcases e' with y | y | y | y | y | y
          · rw [y]; exact Nat.le_add_right _ _
          · rw [y]; exact Nat.le_add_right _ _
          · rw [y]; exact Nat.le_add_right _ _
          · rw [y]; exact Nat.le_refl _
          · rw [y]; exact Nat.le_add_right _ _
          · rw [y]; exact Nat.le_add_right _ _
        exact I1.fpOk hle (I1.hok.fresh hle)
/-- a new triple at each turn -/
def YTri (f g h : Nat → Option V) : Nat → Hp → V → Hp → Prop := fun i H v H' => ∃ T x y z, v = .ref T ∧ H T = none ∧ H' = upd H T (.tup [x, y, z]) ∧ f i = some x ∧ g i = some y ∧ h i = some z
theorem walk_zip3 {K : PySem.W.Frag} {a b c : Addr} {xs ys zs : List V} {n : Nat} (hn : n = min (min xs.length ys.length) zs.length) : Walk (ItT K a b c) n (fun H => SqL K H a xs ∧ SqL K H b ys ∧ SqL K H c zs) (YTri (fun i => xs[i]?) (fun i => ys[i]?) (fun i => zs[i]?)) := by
  subst hn
  refine ⟨fun i _ hi q => ?_, fun _ q => ⟨xs, ys, zs, q.1, q.2.1, q.2.2, by omega, by omega, by omega, by omega⟩, fun i H v H' _ q y => ?_⟩
  · have h1 : i < xs.length := by omega
    have h2 : i < ys.length := by omega
    have h3 : i < zs.length := by omega
    exact ⟨xs, ys, zs, xs[i], ys[i], zs[i], q.1, q.2.1, q.2.2, by simp [h1], by simp [h2], by simp [h3]⟩
  · obtain ⟨T, x, z, u, h1, h2, h3, h4, h5, h6⟩ := y
    exact ⟨T, x, z, u, h1, h2, h3, h4 xs q.1, h5 ys q.2.1, h6 zs q.2.2⟩
theorem walkd_tri {K : PySem.W.Frag} {J : It} {W0 : List Addr} {H0 : Hp} {n : Nat} {G : Hp → Prop} {f g h : Nat → Option V} {ps : List PyData} (w : Walk J n G (YTri f g h)) (hn : ps.length = n) (hG : ∀ W H, Same (fz W0 H0) (fz W H) → G H)
    (hh : ∀ i u v w, i < n → f i = some u → g i = some v → h i = some w → ∃ x y z, ps[i]? = some (.tuple [x, y, z]) ∧ R K (fz W0 H0) u x ∧ R K (fz W0 H0) v y ∧ R K (fz W0 H0) w z) : WalkD K J W0 H0 ps := by
  subst hn
  refine ⟨G, _, w, hG, fun W H i v H' s dm hi y => ?_⟩
  obtain ⟨T, a, b, c, rfl, hT, rfl, ha, hb, hc⟩ := y
  obtain ⟨x, y, z, h1, h2, h3, h4⟩ := hh i a b c hi ha hb hc
  have sp : Same H (upd H T (.tup [a, b, c])) := same_new hT
  have nT : T ∉ W := fun z => dm T z hT
  exact ⟨sp, _, h1, .tup (.inl (.inl (by rw [fz_of nT]; exact upd_same))) (.cons (R.same (s.trans (fz_same sp)) _ _ h2) (.cons (R.same (s.trans (fz_same sp)) _ _ h3) (.cons (R.same (s.trans (fz_same sp)) _ _ h4) .nil)))⟩
def zip3 {α β γ : Type} : List α → List β → List γ → List (T3 α β γ)
  | x :: xs, y :: ys, z :: zs => ⟨x, y, z⟩ :: zip3 xs ys zs
  | _, _, _ => []
theorem zip3_len {α β γ : Type} : ∀ (xs : List α) (ys : List β) (zs : List γ), (zip3 xs ys zs).length = min (min xs.length ys.length) zs.length
  | [], _, _ => by simp [zip3]
  | _ :: _, [], _ => by simp [zip3]
  | _ :: _, _ :: _, [] => by simp [zip3]
  | x :: xs, y :: ys, z :: zs => by
    show (zip3 xs ys zs).length + 1 = _
    rw [zip3_len xs ys zs]
    simp only [List.length_cons]
    omega
theorem zip3_get {α β γ : Type} : ∀ {xs : List α} {ys : List β} {zs : List γ} {i : Nat} {x : α} {y : β} {z : γ}, xs[i]? = some x → ys[i]? = some y → zs[i]? = some z → (zip3 xs ys zs)[i]? = some ⟨x, y, z⟩
  | [], _, _, i, x, y, z, h1, h2, h3 => by simp at h1
  | _ :: _, [], _, i, x, y, z, h1, h2, h3 => by simp at h2
  | _ :: _, _ :: _, [], i, x, y, z, h1, h2, h3 => by simp at h3
  | a :: xs, b :: ys, c :: zs, 0, x, y, z, h1, h2, h3 => by
    cases Option.some.inj h1; cases Option.some.inj h2; cases Option.some.inj h3
    rfl
  | a :: xs, b :: ys, c :: zs, i + 1, x, y, z, h1, h2, h3 => by
    show (zip3 xs ys zs)[i]? = _
    exact zip3_get (by simpa using h1) (by simpa using h2) (by simpa using h3)
theorem zip3_at {α β γ : Type} : ∀ {xs : List α} {ys : List β} {zs : List γ} {i : Nat} {t : T3 α β γ}, (zip3 xs ys zs)[i]? = some t → xs[i]? = some t.a ∧ ys[i]? = some t.b ∧ zs[i]? = some t.c
  | [], _, _, i, t, h => by simp [zip3] at h
  | _ :: _, [], _, i, t, h => by simp [zip3] at h
  | _ :: _, _ :: _, [], i, t, h => by simp [zip3] at h
  | a :: xs, b :: ys, c :: zs, 0, t, h => by
    cases Option.some.inj h
    exact ⟨rfl, rfl, rfl⟩
  | a :: xs, b :: ys, c :: zs, i + 1, t, h => by
    have := zip3_at (xs := xs) (ys := ys) (zs := zs) (i := i) (t := t) h
    simpa using this
section
variable {X : Cx} {E : List Sl} {a b c : Expr} {pos : Pos} {α β γ : Type} {f : α → PyData} {g : β → PyData} {h : γ → PyData} {xs : List α} {ys : List β} {zs : List γ}
theorem di_zip3L {elts : List Expr} {kk : Nat} {tp nm : Pos} (ha : DE X E a (eL f xs)) (hb : DE X E b (eL g ys)) (hc : DE X E c (eL h zs)) (hg : Gl X "zip") (hm : X.mg "zip" = none) (hs : starEach [a, b, c] X.env = (false, eval a X.env) :: starEach [b, c] X.env := by rfl) (hs2 : starEach [b, c] X.env = (false, eval b X.env) :: starEach [c] X.env := by rfl) (hs3 : starEach [c] X.env = (false, eval c X.env) :: starEach [] X.env := by rfl)
    (hpl : ((PySem.backTo pos (PySem.starEach [b, c] X.env)).any fun x => x.fst) = false := by rfl) : DI X E (.Tuple elts kk tp) (.Call (.Name "zip" nm) [a, b, c] [] pos) ((zip3 xs ys zs).map (eT3 f g h)) := by
  obtain ⟨ta, a1, a2⟩ := ha
  obtain ⟨tb, b1, b2⟩ := hb
  obtain ⟨tc, c1, c2⟩ := hc
  refine ⟨fun M L H σ Rr I k => ⟨_, pi_zip3 hg hm (pa_cons a1 (pa_cons b1 (pa_cons c1 pa_nil hs3) hs2) hs) hs hpl, a2 M L H σ _ I fun v H1 s1 r1 => b2 M L H1 σ _ (I.same s1) fun w H2 s2 r2 => c2 M L H2 σ _ ((I.same s1).same s2) fun u H3 s3 r3 => ?_⟩⟩
  cases R.same (fz_same (s2.trans s3)) _ _ r1 with
  | lst hs hr =>
    rename_i p vs
    cases R.same (fz_same s3) _ _ r2 with
    | lst hs2 hr2 =>
      rename_i p2 ws
      cases r3 with
      | lst hs3 hr3 =>
        rename_i p3 us
        refine ⟨p, p2, p3, vs, ws, us, rfl, fz_sub.seq hs, fz_sub.seq hs2, fz_sub.seq hs3, k _ H3 ((s1.trans s2).trans s3) (walkd_tri (walk_zip3 rfl) (by rw [List.length_map, zip3_len, hr.length, hr2.length, hr3.length, List.length_map, List.length_map, List.length_map]) (fun W H s => ⟨fz_sub.seq (s.seq hs), fz_sub.seq (s.seq hs2), fz_sub.seq (s.seq hs3)⟩) fun i v w u hi e1 e2 e3 => ?_)⟩
        obtain ⟨x, h1, h2⟩ := RA.getV hr e1
        obtain ⟨y, h3, h4⟩ := RA.getV hr2 e2
        obtain ⟨z, h5, h6⟩ := RA.getV hr3 e3
        rw [List.getElem?_map] at h1 h3 h5
        cases g1 : xs[i]? with
        | none => rw [g1] at h1; cases h1
        | some x0 =>
          cases g2 : ys[i]? with
          | none => rw [g2] at h3; cases h3
          | some y0 =>
            cases g3 : zs[i]? with
            | none => rw [g3] at h5; cases h5
            | some z0 =>
              rw [g1] at h1; rw [g2] at h3; rw [g3] at h5
              cases Option.some.inj h1; cases Option.some.inj h3; cases Option.some.inj h5
              exact ⟨_, _, _, by rw [List.getElem?_map, zip3_get g1 g2 g3]; rfl, h2, h4, h6⟩
end
end D

end

section
set_option Elab.async false
set_option linter.all false
set_option autoImplicit false
set_option maxRecDepth 100000
set_option maxHeartbeats 2000000
namespace D
open PySem L2 PySem.Spec PyProof.Rows
/-- what a def that may raise comes to: something new that is owned -/
def resO {α : Type} (A : Nat → Addr) (f : α → OT) : Except Nat α → Res
  | .ok v => .ok (f v)
  | .error n => .ex (A n) none
theorem resO_okv {α : Type} [Inhabited α] {A : Nat → Addr} {f : α → OT} {m : Except Nat α} (h : m = .ok (okv m)) : Res.ok (f (okv m)) = resO A f m := by
  generalize okv m = v at *
  subst h
  rfl
abbrev oPL {α β : Type} (f : α → PyData) (g : β → PyData) : α × List β → OT := oP (oD f) (oL g)
theorem dat_PL {α β : Type} (f : α → PyData) (g : β → PyData) : Dat (oPL f g) (eP f (eL g)) := dat_P (dat_D f) (dat_L g)
theorem oflat_L {β : Type} {g : β → PyData} (h : ∀ y, flat (g y) = true) (ys : List β) : oflat (oL g ys) = true := by
  rw [oL_eq]
  exact oflats_map (g := oD g) (fun y => h y) ys
theorem oflat_PL {α β : Type} {f : α → PyData} {g : β → PyData} (hf : ∀ x, flat (f x) = true) (h : ∀ y, flat (g y) = true) (v : α × List β) : oflat (oPL f g v) = true := by
  show (flat (f v.1) && (oflat (oL g v.2) && true)) = true
  rw [hf, oflat_L h]
  rfl
section
variable {X : Cx} {W : WX} {E E' : List Sl} {a b c e : Expr} {pos : Pos} {α β γ : Type} {f : α → PyData} {g : β → PyData} {h : γ → PyData} {x : α} {y : β} {ys : List β} {v : α × List β} {P : Out → Prop} {z : PyData} {t : Bool}
theorem dn_pair {k} (ha : DE X E a (f x)) (hb : DN X E b (oL g ys)) (hs1 : starEach [a, b] X.env = (false, eval a X.env) :: starEach [b] X.env := by rfl) (hs2 : starEach [b] X.env = (false, eval b X.env) :: starEach [] X.env := by rfl) : DN X E (.Tuple [a, b] k pos) (oPL f g (x, ys)) :=
  dn_tupO (dna_cons ha.toN (dna_cons hb dna_nil hs2) hs1)
theorem db_pair {k} (ha : DE X E a (f x)) (hb : DB X E b (oL g ys)) (hs1 : starEach [a, b] X.env = (false, eval a X.env) :: starEach [b] X.env := by rfl) (hs2 : starEach [b] X.env = (false, eval b X.env) :: starEach [] X.env := by rfl) : DB X E (.Tuple [a, b] k pos) (oPL f g (x, ys)) :=
  db_tup (dba_d ha (dba_o (xs := []) hb da_nil hs2) hs1)
theorem DN.toPL (h : DN X E e (oPL f g v)) : DE X E e (eP f (eL g) v) := DN.toS (dat_PL f g) h
theorem dn_borrowG {δ : Type} {o : δ → OT} {d : δ → PyData} {w : δ} {u : OT} (i : Nat) (D0 : Dat o d) (hg : E[i]? = some (.o (o w))) (h : DN X (E.set i (.o (.d (d w)))) e u) (hf : oflat u = true) : DN X E e u := dn_borrowO i hg (by rw [D0 w]) h hf
/-- x[1].clear(), x[1].append(e), of an own pair -/
theorem ds_clear1 {nx : Str} {np ap cp sp ip : Pos} {j : Nat} (i : Nat) (hv : ∀ p, PE X (.Name nx p) (tVar i)) (hg : E[i]? = some (.o (oPL f g v))) (hE : E.set i (.o (oPL f g (v.1, []))) = E' := by rfl)
    (hbase : attributeBase (.Subscript (.Name nx np) (.Constant (.int 1) j ip) sp) "clear" X.env (eval (.Subscript (.Name nx np) (.Constant (.int 1) j ip) sp) X.env) = eval (.Subscript (.Name nx np) (.Constant (.int 1) j ip) sp) X.env := by rfl) (hline : (ap.endLine == cp.line) = true := by rfl)
    (hsw : swapsWith (.Call (.Attribute (.Subscript (.Name nx np) (.Constant (.int 1) j ip) sp) "clear" ap) [] [] cp) none pos.line X.env = pure false := by rfl) :
    DS X W (.Expr (.Call (.Attribute (.Subscript (.Name nx np) (.Constant (.int 1) j ip) sp) "clear" ap) [] [] cp) pos) E (th (· = E') P) :=
  ds_clearP (p := [1]) (dp_ixT (p := []) (dp_v i (hv _) hg) de_int hg rfl rfl) hg rfl hE hbase hline hsw
theorem ds_append1 {nx : Str} {np ap cp sp ip : Pos} {j : Nat} (i : Nat) (hv : ∀ p, PE X (.Name nx p) (tVar i)) (he : DE X E e (g y)) (hg : E[i]? = some (.o (oPL f g v))) (hl : v.2.length < sizeLine) (hE : E.set i (.o (oPL f g (v.1, v.2 ++ [y]))) = E' := by rfl)
    (hbase : attributeBase (.Subscript (.Name nx np) (.Constant (.int 1) j ip) sp) "append" X.env (eval (.Subscript (.Name nx np) (.Constant (.int 1) j ip) sp) X.env) = eval (.Subscript (.Name nx np) (.Constant (.int 1) j ip) sp) X.env := by rfl)
    (hfew : ((backTo cp (starEach [e] X.env)).all (fun x => !x.1) && (backToKw cp (keywordEach [] X.env)).all (fun x => x.1.isSome) && decide ([e].length + ([] : List Keyword).length + (if ([] : List Keyword).isEmpty then 0 else 1) < 30)) = true := by rfl)
    (hline : (ap.endLine == cp.line) = true := by rfl) (hst : starEach [e] X.env = (false, eval e X.env) :: starEach [] X.env := by rfl) (hplain : (backTo cp (starEach [] X.env)).any (·.1) = false := by rfl)
    (hsw : swapsWith (.Call (.Attribute (.Subscript (.Name nx np) (.Constant (.int 1) j ip) sp) "append" ap) [e] [] cp) none pos.line X.env = pure false := by rfl) :
    DS X W (.Expr (.Call (.Attribute (.Subscript (.Name nx np) (.Constant (.int 1) j ip) sp) "append" ap) [e] [] cp) pos) E (th (· = E') P) :=
  ds_appendP (p := [1]) (dp_ixT (p := []) (dp_v i (hv _) hg) de_int hg rfl rfl) he.toN hg rfl (by simpa using hl) (by
    rw [← hE]
    show E.set i (.o (.t [.d (f v.1), .l (((v.2.map g).map .d) ++ [.d (g y)])])) = E.set i (.o (.t [.d (f v.1), .l (((v.2 ++ [y]).map g).map .d)]))
    rw [List.map_append, List.map_append]
    rfl) hbase hfew hline hst hplain hsw
/-- x[:k] of a tuple, not the whole -/
theorem de_cutT {xs : List PyData} {lo hi : Option Expr} {ol oh : Option Int} {p2 : Pos} (ha : DE X E a (.tuple xs)) (hl : DO X E lo ol) (hh : DO X E hi oh) (hn : ¬ (HT.sIx xs.length 0 ol = 0 ∧ HT.sIx xs.length xs.length oh = xs.length)) : DE X E (.Subscript a (.Slice lo hi none p2) pos) (.tuple (cutG xs ol oh)) := by
  obtain ⟨ta, a1, a2⟩ := ha
  obtain ⟨tl, l1, l2⟩ := hl
  obtain ⟨th, h1, h2⟩ := hh
  refine ⟨_, pe_slice sl_tup a1 l1 h1, fun M L H σ Q I k => a2 M L H σ _ I fun v H1 s1 r1 => l2 M L H1 σ _ (I.same s1) fun H2 s2 => h2 M L H2 σ _ (I.same (s1.trans s2)) fun H3 s3 => ?_⟩
  cases R.same (fz_same (s2.trans s3)) _ _ r1 with
  | tup hs hr =>
    rename_i q vs
    have hl := hr.length
    refine ⟨q, vs, rfl, same_t fz_sub hs, by rw [hl]; exact hn, fun p hp => ?_⟩
    have s03 := (s1.trans s2).trans s3
    have sp : Same H3 (upd H3 p (.tup (cutV vs ol oh))) := same_new hp
    have np : p ∉ L ++ M := fun z => (I.same s03).dom p z hp
    refine k _ _ (s03.trans sp) (.tup (.inl (.inl (by rw [fz_of np]; exact upd_same))) (RA.same (fz_same sp) _ _ hr.cut))
end
/-! ### data that is a fraction -/
def isFrD : PyData → Bool
  | .tuple [.int _, .int _] => true
  | _ => false
def asFr : PyData → Fr
  | .tuple [.int a, .int b] => (a, b)
  | _ => (0, 1)
theorem asFr_eq {x : PyData} (h : isFrD x = true) : x = eP .int .int (asFr x) := by
  unfold isFrD at h
  split at h
  · rfl
  · cases h
theorem de_asFr {X : Cx} {E : List Sl} {a : Expr} {x : PyData} (h : isFrD x = true) (ha : DE X E a x) : DE X E a (eP .int .int (asFr x)) := asFr_eq h ▸ ha
theorem frD_mk {x : PyData} (h1 : isTuple x = true) (h2 : pyLen x = 2) (h3 : isWhole (gx (elems x) 0) = true) (h4 : isWhole (gx (elems x) 1) = true) : isFrD x = true := by
  cases x with
  | tuple xs =>
    have h2' : xs.length = 2 := by
      have : ((xs.length : Nat) : Int) = 2 := h2
      omega
    match xs, h2' with
    | [p, q], _ =>
      have e3 : isWhole p = true := h3
      have e4 : isWhole q = true := h4
      rw [isWhole_eq e3, isWhole_eq e4]
      rfl
  | _ => cases h1
section
variable {X : Cx} {E : List Sl} {a b : Expr} {pos p2 : Pos} {α β γ δ ε : Type} {f : α → PyData} {g : β → PyData} {h : γ → PyData} {k : δ → PyData} {l : ε → PyData}
theorem de_cut52 {v : T5 α β γ δ ε} (ha : DE X E a (eT5 f g h k l v)) (hb : DE X E b (.int 2)) : DE X E (.Subscript a (.Slice none (some b) none p2) pos) (eP f g (v.a, v.b)) := de_cutT ha do_non (do_som hb) (by show ¬ (HT.sIx 5 0 none = 0 ∧ HT.sIx 5 5 (some 2) = 5); decide)
end
theorem oL_any {α : Type} (f : α → PyData) (xs : List α) : oL f xs = oL eA (xs.map f) := by
  have e : (xs.map f).map eA = xs.map f := List.map_id _
  show OT.l _ = OT.l (((xs.map f).map eA).map .d)
  rw [e]
theorem eL_any {α : Type} (f : α → PyData) (xs : List α) : eL f xs = eL eA (xs.map f) := by
  have e : (xs.map f).map eA = xs.map f := List.map_id _
  show PyData.list _ = PyData.list ((xs.map f).map eA)
  rw [e]
theorem cutG_len {α : Type} (xs : List α) (lo hi : Option Int) : (cutG xs lo hi).length ≤ xs.length := by
  unfold cutG
  rw [List.length_take, List.length_drop]
  omega
/-- two things told alike, kept out of the simplifier's sight -/
def eqD {α : Type} [DecidableEq α] (a b : α) : Bool := decide (a = b)
theorem eqD_t {α : Type} [DecidableEq α] {a b : α} : (eqD a b = true) = (a = b) := propext (decide_eq_true_iff)
theorem eqD_f {α : Type} [DecidableEq α] {a b : α} : (eqD a b = false) = ¬ (a = b) := propext (decide_eq_false_iff_not)
theorem eqD_self {α : Type} [DecidableEq α] (a : α) : eqD a a = true := decide_eq_true rfl
section
variable {X : Cx} {E : List Sl} {a b : Expr} {pos : Pos} {α : Type} [DecidableEq α] {n : Nat} {f : α → PyData} {x y : α}
theorem de_eqU (hu : X.A.units + 64 < cLine) (h : EqE n f) (ha : DE X E a (f x)) (hb : DE X E b (f y)) (hn : Nat.ble n 64 = true := by rfl) : DE X E (.Compare a [.Eq] [b] pos) (.bool (eqD x y)) := de_eqT hu h ha hb hn
theorem dt_eqU (hu : X.A.units + 64 < cLine) (h : EqE n f) (ha : DE X E a (f x)) (hb : DE X E b (f y)) (hn : Nat.ble n 64 = true := by rfl) : DT X E (.Compare a [.Eq] [b] pos) (eqD x y) := dt_eqT hu h ha hb hn
theorem dt_neU (hu : X.A.units + 64 < cLine) (h : EqE n f) (ha : DE X E a (f x)) (hb : DE X E b (f y)) (hn : Nat.ble n 64 = true := by rfl) : DT X E (.Compare a [.NotEq] [b] pos) (!eqD x y) := dt_neT hu h ha hb hn
end
end D

end

section
set_option Elab.async false
set_option linter.all false
set_option autoImplicit false
set_option maxRecDepth 100000
set_option maxHeartbeats 2000000
namespace D
open PySem L2 PySem.Spec PyProof.Rows
/-! ### two readings of the same data are equal, empty dicts within or not -/
mutual
/-- no instance within -/
def noIns : PyData → Bool
  | .dict kvs => kvs.isEmpty
  | .list ds => noInss ds
  | .tuple ds => noInss ds
  | _ => true
def noInss : List PyData → Bool
  | [] => true
  | d :: ds => noIns d && noInss ds
end
theorem sdict {P P' : Program} {w w' : World} {h : Heap} {a : Addr} (x : h.DictOf (mixKind P w) a []) : h.DictOf (mixKind P' w') a [] := by
  obtain ⟨o, es, ep, h1, h2, h3, h4, h5, h6⟩ := x
  have e : es = #[] := by
    have := h5.length
    exact Array.eq_empty_of_size_eq_zero (by simpa using this)
  subst e
  exact ⟨o, #[], ep, h1, h2, h3, fun e he => by simp at he, .nil, List.nodup_nil⟩
theorem rc_dict0 {P : Program} {w : World} {A : Around} {s : Shared} {a b : Addr} (ha : (a == sysModules) = false) (hb : (b == sysModules) = false) (da : s.heap.DictOf (mixKind P w) a []) (db : s.heap.DictOf (mixKind P w) b []) (hu : A.units < cLine) : SeqAt.RcAt A s (.ref a) (.ref b) true :=
  fun prog w' E Q q => PySem.W.rcP_dicts (knd := mixKind prog w') (ka := []) (kb := []) (r := true) ha hb (sdict da) (sdict db) hu (fun _ => .nil) E Q q
theorem all_true (n : Nat) : ((List.range n).all fun _ => true) = true := List.all_eq_true.mpr fun _ _ => rfl
section
variable {X : Cx} {pins : List (Addr × Obj)} {σ : L2.St} {H : Hp} {s : Shared}
mutual
theorem same_run (I : Inv X pins σ H s) : ∀ (d : PyData) (A : Around) (v w : V) (u1 u2 : Value), R X.K H v d → R X.K H w d → noIns d = true → A.units + d.depth < cLine → RelV v u1 → RelV w u2 → SeqAt.EqAt A s u1 u2 true
  | .none, A, _, _, _, _, r1, r2, _, _, h1, h2 => by
    cases r1; cases r2; cases h1; cases h2
    exact SeqAt.EqAt.same _
  | .bool b, A, _, _, _, _, r1, r2, _, _, h1, h2 => by
    cases r1; cases r2; cases h1; cases h2
    exact SeqAt.EqAt.same _
  | .int i, A, _, _, _, _, r1, r2, _, _, h1, h2 => by
    cases r1; cases r2
    obtain ⟨t, rfl⟩ := h1
    obtain ⟨t', rfl⟩ := h2
    have := SeqAt.EqAt.int_int (A := A) (s := s) i t i t'
    rwa [show (i == i) = true from beq_self_eq_true i] at this
  | .str x, A, _, _, _, _, r1, r2, _, _, h1, h2 => by
    cases r1; cases r2
    obtain ⟨t, rfl⟩ := h1
    obtain ⟨t', rfl⟩ := h2
    have := SeqAt.EqAt.str_str (A := A) (s := s) x t x t'
    rwa [show (x == x) = true from beq_self_eq_true x] at this
  | .list ds, A, _, _, _, _, r1, r2, ok, hu, h1, h2 => by
    cases r1 with
    | @lst a xs _ s1 a1 =>
    cases r2 with
    | @lst b ys _ s2 a2 =>
      cases h1; cases h2
      obtain ⟨us, v1, p1, _⟩ := I.list s1
      obtain ⟨ws, v2, p2, _⟩ := I.list s2
      have hu1 : A.units + (PyData.depthAll ds + 1) < cLine := hu
      have e1 := a1.length
      have e2 := a2.length
      have e3 := v1.length
      have e4 := v2.length
      by_cases e : a = b
      · subst e; exact SeqAt.EqAt.same _
      · refine SeqAt.EqAt.of_refs e ?_
        have := SeqAt.RcAt.lists (e := fun _ => true) (A := A) p1.isList p2.isList (by simp; omega) (by omega) fun j j1 j2 => by
          have := same_runs I ds A.in1 _ _ _ _ a1 a2 (by simpa [noIns] using ok) (by show A.units + 1 + _ < _; omega) v1 v2 j (by simpa using j1) (by simpa using j2)
          simpa using this
        rwa [all_true] at this
  | .tuple ds, A, _, _, _, _, r1, r2, ok, hu, h1, h2 => by
    cases r1 with
    | @tup a xs _ s1 a1 =>
    cases r2 with
    | @tup b ys _ s2 a2 =>
      cases h1; cases h2
      obtain ⟨us, v1, p1, _⟩ := I.tuple s1
      obtain ⟨ws, v2, p2, _⟩ := I.tuple s2
      have hu1 : A.units + (PyData.depthAll ds + 1) < cLine := hu
      have e1 := a1.length
      have e2 := a2.length
      have e3 := v1.length
      have e4 := v2.length
      by_cases e : a = b
      · subst e; exact SeqAt.EqAt.same _
      · refine SeqAt.EqAt.of_refs e ?_
        obtain ⟨o1, ho1, hc1, n1, hd1⟩ := p1
        obtain ⟨o2, ho2, hc2, n2, hd2⟩ := p2
        have := SeqAt.RcAt.tuples (e := fun _ => true) (A := A) ⟨o1, ho1, hc1, n1, hd1⟩ ⟨o2, ho2, hc2, n2, hd2⟩ (by omega) fun j j1 j2 => by
          have := same_runs I ds A.in1 _ _ _ _ a1 a2 (by simpa [noIns] using ok) (by show A.units + 1 + _ < _; omega) v1 v2 j (by simpa using j1) (by simpa using j2)
          simpa using this
        rw [all_true, Bool.true_and] at this
        rwa [show (us.toArray.size == ws.toArray.size) = true from by rw [beq_iff_eq]; simp; omega] at this
  | .dict kvs, A, _, _, _, _, r1, r2, ok, hu, h1, h2 => by
    cases r1 with
    | ins => exact Bool.noConfusion ok
    | exc => exact Bool.noConfusion ok
    | @dict0 a s1 =>
    cases r2 with
    | @dict0 b s2 =>
      cases h1; cases h2
      obtain ⟨_, ya, va, ra, da⟩ := (show ObjOk X.prog X.w H s.heap a (.dK []) from I.hok a _ s1)
      obtain ⟨_, yb, vb, rb, db⟩ := (show ObjOk X.prog X.w H s.heap b (.dK []) from I.hok b _ s2)
      cases ra; cases rb
      by_cases e : a = b
      · subst e; exact SeqAt.EqAt.same _
      · exact SeqAt.EqAt.of_refs e (rc_dict0 ya yb da db (by omega))
theorem same_runs (I : Inv X pins σ H s) : ∀ (ds : List PyData) (A : Around) (vs ws : List V) (us1 us2 : List Value), RA X.K H vs ds → RA X.K H ws ds → noInss ds = true → A.units + PyData.depthAll ds < cLine → Vals vs us1 → Vals ws us2 → ∀ j (h1 : j < us1.length) (h2 : j < us2.length), SeqAt.EqAt A s us1[j] us2[j] true
  | [], _, _, _, _, _, r1, r2, _, _, h1, h2, j, l1, l2 => by
    cases r1; cases h1; exact absurd l1 (Nat.not_lt_zero j)
  | d :: ds, A, _, _, _, _, r1, r2, ok, hu, h1, h2, j, l1, l2 => by
    have hu1 : A.units + max d.depth (PyData.depthAll ds) < cLine := hu
    have ok' : noIns d = true ∧ noInss ds = true := by simpa [noInss] using ok
    cases r1 with
    | cons q1 q2 =>
    cases r2 with
    | cons q3 q4 =>
    cases h1 with
    | cons k1 k2 =>
    cases h2 with
    | cons k3 k4 =>
    cases j with
    | zero => exact same_run I d A _ _ _ _ q1 q3 ok'.1 (by omega) k1 k3
    | succ j => exact same_runs I ds A _ _ _ _ q2 q4 ok'.2 (by omega) k2 k4 j (Nat.lt_of_succ_lt_succ l1) (Nat.lt_of_succ_lt_succ l2)
end
end
def rNeS (K : PySem.W.Frag) : R2 := fun x y H Q => ∃ ds, R K H x (.list ds) ∧ R K H y (.list ds) ∧ noInss ds = true ∧ PyData.depthAll ds ≤ 60 ∧ Q (.bl false) H
theorem op_neS {X : Cx} (hu : X.A.units + 64 < cLine) : OpR X (compareOp .NotEq) (rNeS X.K) := by
  intro pins s σ H x y v u Q I rx ry h
  obtain ⟨ds, r1, r2, ok, hd, q⟩ := h
  cases r1 with
  | @lst a xs _ s1 a1 =>
  cases r2 with
  | @lst b ys _ s2 a2 =>
    cases rx; cases ry
    obtain ⟨us, v1, p1, _⟩ := I.list s1
    obtain ⟨ws, v2, p2, _⟩ := I.list s2
    have e1 := a1.length
    have e2 := a2.length
    have e3 := v1.length
    have e4 := v2.length
    have := SeqAt.RcNeAt.lists (e := fun _ => true) (A := X.A) p1.isList p2.isList (by simp; omega) (by omega) fun j j1 j2 => by
      have := same_runs I ds X.A.in1 _ _ _ _ a1 a2 ok (by show X.A.units + 1 + _ < _; omega) v1 v2 j (by simpa using j1) (by simpa using j2)
      simpa using this
    rw [all_true] at this
    exact this X.prog X.w _ _ ⟨.bl false, H, I, rfl, q⟩
section
variable {X : Cx} {E : List Sl} {a b : Expr} {pos : Pos} {xs ys : List PyData}
theorem dt_neS (hu : X.A.units + 64 < cLine) (ha : DE X E a (eL eA xs)) (hb : DE X E b (eL eA ys)) (he : ys = xs) (ok : noInss xs = true) (hd : PyData.depthAll xs ≤ 60) : DT X E (.Compare a [.NotEq] [b] pos) false := by
  subst he
  have e : eL eA ys = .list ys := by
    show PyData.list (ys.map eA) = _
    rw [show ys.map eA = ys from List.map_id _]
  rw [e] at ha hb
  exact dt_cmp (op_neS hu) ha hb (fun M L H σ v w Q I r1 r2 k => ⟨ys, R.same fz_sub _ _ r1, R.same fz_sub _ _ r2, ok, hd, k _ H (Same.refl H) (.bl _)⟩) (nomark _)
end
end D

end

section
set_option Elab.async false
set_option linter.all false
set_option autoImplicit false
set_option maxRecDepth 100000
set_option maxHeartbeats 2000000
namespace D
open PySem L2 PySem.Spec PyProof.Rows
section
variable {X : Cx} {E : List Sl} {a b : Expr} {pos nm : Pos} {xs ys : List PyData}
/-- list(t) of a tuple -/
theorem dn_listT (ha : DE X E a (.tuple xs)) (hg : Gl X "list") (hm : X.mg "list" = none) (hs : starEach [a] X.env = (false, eval a X.env) :: starEach [] X.env := by rfl) : DN X E (.Call (.Name "list" nm) [a] [] pos) (.l (xs.map .d)) := by
  obtain ⟨ta, a1, a2⟩ := ha
  refine ⟨_, pe_callTy call_list_of hg hm (by decide +kernel) (pa_cons a1 pa_nil hs) (he := hs), fun M L H σ Q I k => a2 M L H σ _ I fun v H1 s1 r1 => ?_⟩
  cases r1 with
  | tup hs hr => exact ⟨_, _, rfl, .inr (same_t fz_sub hs), fun p hp => own_new I s1 hr hp k⟩
/-- tuple(l) of a list -/
theorem de_tupleL (ha : DE X E a (.list xs)) (hg : Gl X "tuple") (hm : X.mg "tuple" = none) (hs : starEach [a] X.env = (false, eval a X.env) :: starEach [] X.env := by rfl) : DE X E (.Call (.Name "tuple" nm) [a] [] pos) (.tuple xs) := by
  obtain ⟨ta, a1, a2⟩ := ha
  refine ⟨_, pe_callTy call_tuple_of hg hm (by decide +kernel) (pa_cons a1 pa_nil hs) (he := hs), fun M L H σ Q I k => a2 M L H σ _ I fun v H1 s1 r1 => ?_⟩
  cases r1 with
  | @lst q vs _ hs hr =>
    refine ⟨_, _, rfl, .inl ⟨fz_sub.seq hs, fun p hp => ?_⟩⟩
    have sp : Same H1 (upd H1 p (.tup vs)) := same_new hp
    have np : p ∉ L ++ M := fun z => (I.same s1).dom p z hp
    exact k _ _ (s1.trans sp) (.tup (.inl (.inl (by rw [fz_of np]; exact upd_same))) (RA.same (fz_same sp) _ _ hr))
/-- t + u -/
theorem de_catT (ha : DE X E a (.tuple xs)) (hb : DE X E b (.tuple ys)) (h1 : xs ≠ [] := by exact List.cons_ne_nil _ _) (h2 : ys ≠ [] := by exact List.cons_ne_nil _ _) (hl : Nat.ble (xs.length + ys.length) sizeLine = true := by rfl) : DE X E (.BinOp a .Add b pos) (.tuple (xs ++ ys)) := by
  obtain ⟨ta, a1, a2⟩ := ha
  obtain ⟨tb, b1, b2⟩ := hb
  refine ⟨_, pe_op op_catT a1 b1, fun M L H σ Q I k => a2 M L H σ _ I fun v H1 s1 r1 => b2 M L H1 σ _ (I.same s1) fun w H2 s2 r2 => ?_⟩
  cases R.same (fz_same s2) _ _ r1 with
  | @tup q1 vs1 _ hs hr =>
    cases r2 with
    | @tup q2 vs2 _ hs2 hr2 =>
      have e1 := hr.length
      have e2 := hr2.length
      refine ⟨_, _, _, _, rfl, rfl, same_t fz_sub hs, same_t fz_sub hs2, ?_, ?_, ?_, fun _ p hp => ?_⟩
      · intro z; subst z; exact h1 (List.eq_nil_of_length_eq_zero e1.symm)
      · rw [e1, e2]; exact Nat.le_of_ble_eq_true hl
      · intro z; subst z; exact absurd (List.eq_nil_of_length_eq_zero e2.symm) h2
      have sp : Same H2 (upd H2 p (.tup (vs1 ++ vs2))) := same_new hp
      have np : p ∉ L ++ M := fun z => ((I.same s1).same s2).dom p z hp
      exact k _ _ ((s1.trans s2).trans sp) (.tup (.inl (.inl (by rw [fz_of np]; exact upd_same))) (RA.same (fz_same sp) _ _ (hr.append hr2)))
end
/-! ### lists of two unlike things -/
abbrev eH {α β : Type} (f : α → PyData) (g : β → PyData) (p : α × β) : PyData := .list [f p.1, g p.2]
theorem dat_H {α β : Type} {g : α → OT} {g' : β → OT} {f : α → PyData} {f' : β → PyData} (h : Dat g f) (h' : Dat g' f') : Dat (oH g g') (eH f f') := fun x => by
  show PyData.list [(g x.1).dat, (g' x.2).dat] = _
  rw [h, h']
section
variable {X : Cx} {E : List Sl} {a b c : Expr} {pos : Pos} {α β : Type} {f : α → PyData} {g : β → PyData} {v : α × β} {x : α} {y : β} {xs : List PyData}
theorem de_ixH0 (ha : DE X E a (eH f g v)) (hb : DE X E b (.int 0)) (h : PlainIx b := by exact fun _ _ => rfl) : DE X E (.Subscript a b pos) (f v.1) := de_ix ha hb rfl h
theorem de_ixH1 (ha : DE X E a (eH f g v)) (hb : DE X E b (.int 1)) (h : PlainIx b := by exact fun _ _ => rfl) : DE X E (.Subscript a b pos) (g v.2) := de_ix ha hb rfl h
theorem de_hl (h : DA X E [a, b] [f x, g y]) : DE X E (.List [a, b] pos) (eH f g (x, y)) := (dn_lst h).toE
theorem de_asL {X : Cx} {E : List Sl} {a : Expr} {x : PyData} (h : isList x = true) (ha : DE X E a x) : DE X E a (eL eA (elems x)) := by
  have e : eL eA (elems x) = x := by
    show PyData.list ((elems x).map eA) = x
    rw [show (elems x).map eA = elems x from List.map_id _]
    exact (list_eq h).symm
  rw [e]; exact ha
/-- tuple(l), list(t), t[:k], t + u, as data of any kind -/
theorem de_tupleA {nm : Pos} (ha : DE X E a (eL eA xs)) (hg : Gl X "tuple") (hm : X.mg "tuple" = none) (hs : starEach [a] X.env = (false, eval a X.env) :: starEach [] X.env := by rfl) : DE X E (.Call (.Name "tuple" nm) [a] [] pos) (.tuple xs) := by
  have e : eL eA xs = .list xs := by
    show PyData.list (xs.map eA) = _
    rw [show xs.map eA = xs from List.map_id _]
  rw [e] at ha
  exact de_tupleL ha hg hm hs
end
theorem oL_eA (xs : List PyData) : OT.l (xs.map .d) = oL eA xs := by
  show _ = OT.l ((xs.map eA).map .d)
  rw [show xs.map eA = xs from List.map_id _]
end D

end

section
set_option Elab.async false
set_option linter.all false
set_option autoImplicit false
set_option maxRecDepth 100000
set_option maxHeartbeats 2000000
namespace D
open PySem L2 PySem.Spec PyProof.Rows
/-! ### xs[lo:hi:step] -/
def pickG {α : Type} (xs : List α) (lo hi : Option Int) (st : Int) : List α :=
  (sliceRange (sliceBounds lo hi (some st) xs.length).1 (sliceBounds lo hi (some st) xs.length).2.1 (sliceBounds lo hi (some st) xs.length).2.2).filterMap (xs[·]?)
theorem pickG_map {α β : Type} (f : α → β) (xs : List α) (lo hi : Option Int) (st : Int) : pickG (xs.map f) lo hi st = (pickG xs lo hi st).map f := by
  unfold pickG
  rw [List.length_map, List.map_filterMap]
  congr 1
  funext i
  rw [List.getElem?_map]
theorem vals_get : ∀ {vs : List V} {us : List Value}, Vals vs us → ∀ i : Nat, (vs[i]? = none ∧ us[i]? = none) ∨ ∃ v u, vs[i]? = some v ∧ us[i]? = some u ∧ RelV v u
  | [], us, h, i => by cases h; exact .inl ⟨by simp, by simp⟩
  | v :: vs, us, h, i => by
    cases h with
    | @cons _ u _ us h1 h2 =>
      cases i with
      | zero => exact .inr ⟨v, u, by simp, by simp, h1⟩
      | succ i => simpa using vals_get h2 i
theorem Vals.fm {vs : List V} {us : List Value} (h : Vals vs us) : ∀ is : List Nat, Vals (is.filterMap (vs[·]?)) (is.filterMap (us[·]?))
  | [] => .nil
  | i :: is => by
    rcases vals_get h i with ⟨e1, e2⟩ | ⟨v, u, e1, e2, r⟩
    · rw [List.filterMap_cons_none e1, List.filterMap_cons_none e2]
      exact Vals.fm h is
    · rw [List.filterMap_cons_some e1, List.filterMap_cons_some e2]
      exact .cons r (Vals.fm h is)
theorem Vals.pick {vs : List V} {us : List Value} (h : Vals vs us) (lo hi : Option Int) (st : Int) : Vals (pickG vs lo hi st) (slicePick us.toArray lo hi (some st)).toList := by
  have e : us.toArray.size = vs.length := by rw [List.size_toArray, h.length]
  unfold pickG slicePick
  rw [e]
  have e2 : (fun i : Nat => us.toArray[i]?) = (fun i : Nat => us[i]?) := by funext i; simp
  rw [e2]
  exact Vals.fm h _
theorem RA.pick {K : PySem.W.Frag} {H : Hp} {ds : List PyData} {vs : List V} (h : RA K H vs ds) (lo hi : Option Int) (st : Int) : RA K H (pickG vs lo hi st) (pickG ds lo hi st) := by
  have key : ∀ is : List Nat, RA K H (is.filterMap (vs[·]?)) (is.filterMap (ds[·]?)) := by
    intro is
    induction is with
    | nil => exact .nil
    | cons i is ih =>
      cases q : ds[i]? with
      | none =>
        have : vs[i]? = none := by
          rw [List.getElem?_eq_none_iff] at q ⊢
          rw [h.length]; exact q
        rw [List.filterMap_cons_none q, List.filterMap_cons_none this]
        exact ih
      | some x =>
        obtain ⟨v, e, r⟩ := h.get q
        rw [List.filterMap_cons_some q, List.filterMap_cons_some e]
        exact .cons r ih
  unfold pickG
  rw [h.length]
  exact key _
theorem pick_le {its : List Value} {vs : List V} (h : Vals vs its) (lo hi : Option Int) (st : Int) : (pickG vs lo hi st).length ≤ vs.length := by
  have h1 := (Vals.pick h lo hi st).length
  have h2 := slicePick_size_le its.toArray lo hi (some st)
  have h3 := h.length
  have h5 : its.toArray.size = its.length := List.size_toArray ..
  have h4 : (slicePick its.toArray lo hi (some st)).toList.length = (slicePick its.toArray lo hi (some st)).size := Array.length_toList
  omega
def tCutS (K : PySem.W.Frag) (te : TE) (tl th : TO) (st : Int) : TE := fun σ H Q => te σ H fun x H1 => tl σ H1 fun l H2 => th σ H2 fun u H3 => ∃ a xs, x = .ref a ∧ SqL K H3 a xs ∧ ∀ p, H3 p = none → Q (.ref p) (upd H3 p (.lst (pickG xs l u st)))
theorem pe_cutS {X : Cx} {e : Expr} {te : TE} {lo hi : Option Expr} {tl th : TO} {j : Nat} {p1 p3 pos : Pos} {st : Int} (he : PE X e te) (hl : PO X lo tl) (hh : PO X hi th) (h0 : st ≠ 0) : PE X (.Subscript e (.Slice lo hi (some (.Constant (.int st) j p1)) p3) pos) (tCutS X.K te tl th st) := by
  refine ⟨fun pins s σ H Q I h => ?_⟩
  refine Subscript_ (thn (he.run pins s σ H _ I h) fun v s1 ⟨x, H1, I1, r1, q1⟩ => ?_)
  have hst : PO X (some (.Constant (.int st) j p1)) (tPart (tC (.int st))) := po_some pe_int
  refine wpAny_Slice (thn (hl.run pins s1 σ H1 _ I1 q1) fun vl s2 ⟨l, H2, I2, pl, q2⟩ => thn (hh.run pins s2 σ H2 _ I2 q2) fun vu s3 ⟨u, H3, I3, pu, q3⟩ => ?_)
  obtain ⟨a, xs, ex, hx, q⟩ := q3
  subst ex
  cases r1
  refine thn (hst.run pins s3 σ H3 (fun o H4 => o = some st ∧ H4 = H3) I3 ⟨st, rfl, rfl, rfl⟩) fun vs s4 ⟨o, H4, I4, ps, eo, e4⟩ => ?_
  subst eo e4
  have I5 : Inv X pins σ H4 { s4 with heap := s4.heap.push { cls := .type "slice", data := .fields #[vl, vu, vs] } } := I4.kept (t' := s4.toks) fun b ob q => Heap.get?_push_of_some _ q
  obtain ⟨its, r, ht, hz⟩ := I5.list hx
  have hlen := r.length
  show wpAny (model X.prog X.w) X.A (subscriptTail e (.Slice lo hi (some (.Constant (.int st) j p1)) p3) (.ref a) (.ref s4.heap.objs.size)) (EP X pins σ Q) X.xe { s4 with heap := s4.heap.push { cls := .type "slice", data := .fields #[vl, vu, vs] } }
  refine tail_any (ops := [.ref a, .ref s4.heap.objs.size]) ht.isList.typeIs (PySem.slot_list_getitem.lookup) ?_ (by with_unfolding_all rfl)
  refine wpAny_getItem_list_slice ht.isList (Heap.IsSliceOf.new _ vl vu vs) pl pu ps (fun z => h0 (Option.some.inj z)) ?_ (by rw [List.size_toArray]; omega)
  refine ⟨.ref _, _, I5.laid (t' := s4.toks) (o := .lst (pickG xs l u st)) (fun b ob q => Heap.get?_push_of_some _ q) (Nat.le_refl _) ?_, rfl, q _ (I5.hok.fresh (Nat.le_refl _))⟩
  refine ⟨Nat.le_trans (pick_le r l u st) hz, (slicePick its.toArray l u (some st)).toList, 0, Vals.pick r l u st, ?_⟩
  rw [Array.toArray_toList]
  exact Heap.get?_push_size _ rfl
section
variable {X : Cx} {E : List Sl} {a : Expr} {pos : Pos} {xs : List PyData} {α : Type} {f : α → PyData}
theorem dn_cutS {lo hi : Option Expr} {ol oh : Option Int} {j : Nat} {st : Int} {p1 p2 : Pos} (ha : DE X E a (.list xs)) (hl : DO X E lo ol) (hh : DO X E hi oh) (h0 : st ≠ 0) : DN X E (.Subscript a (.Slice lo hi (some (.Constant (.int st) j p1)) p2) pos) (.l ((pickG xs ol oh st).map .d)) := by
  obtain ⟨ta, a1, a2⟩ := ha
  obtain ⟨tl, l1, l2⟩ := hl
  obtain ⟨th, h1, h2⟩ := hh
  refine ⟨_, pe_cutS a1 l1 h1 h0, fun M L H σ Q I k => a2 M L H σ _ I fun v H1 s1 r1 => l2 M L H1 σ _ (I.same s1) fun H2 s2 => h2 M L H2 σ _ (I.same (s1.trans s2)) fun H3 s3 => ?_⟩
  cases R.same (fz_same (s2.trans s3)) _ _ r1 with
  | lst hs hr => exact ⟨_, _, rfl, fz_sub.seq hs, fun p hp => own_new I ((s1.trans s2).trans s3) (hr.pick ol oh st) hp k⟩
theorem dn_cutSL {xs : List α} {lo hi : Option Expr} {ol oh : Option Int} {j : Nat} {st : Int} {p1 p2 : Pos} (ha : DE X E a (eL f xs)) (hl : DO X E lo ol) (hh : DO X E hi oh) (h0 : st ≠ 0) : DN X E (.Subscript a (.Slice lo hi (some (.Constant (.int st) j p1)) p2) pos) (oL f (pickG xs ol oh st)) := by
  have h := dn_cutS (j := j) (p1 := p1) (p2 := p2) (pos := pos) ha hl hh h0
  rw [pickG_map] at h
  exact h
end
/-! ### isinstance(x, (tuple, list)) -/
def isSeq : PyData → Bool
  | .tuple _ => true
  | .list _ => true
  | _ => false
theorem kit_seq (K : PySem.W.Frag) (x : PyData) : PySem.W.kitAny K (.type (tyName x)) [.type "tuple", .type "list"] = some (isSeq x) := by
  refine kitAny_cons (kit_ty (kit_tuple x)) (fun h1 => kitAny_cons (kit_ty (kit_list x)) (fun h2 => ?_) (fun h2 => ?_)) (fun h1 => ?_)
  · cases x <;> first | rfl | exact Bool.noConfusion h1 | exact Bool.noConfusion h2
  · cases x <;> first | rfl | exact Bool.noConfusion h1 | exact Bool.noConfusion h2
  · cases x <;> first | rfl | exact Bool.noConfusion h1
theorem R.kitSeq {K : PySem.W.Frag} {H : Hp} {v : V} {x : PyData} (r : R K H v x) : ∃ t, TyY K H v t ∧ PySem.W.kitAny K t [.type "tuple", .type "list"] = some (isSeq x) := by
  rcases r.ty with h | ⟨C, h, hc, rfl⟩ | ⟨C, y, h, hc, rfl⟩
  · exact ⟨_, .inl h, kit_seq K x⟩
  · exact ⟨_, .inl h, kitAny_cons hc.kt (fun _ => kitAny_cons hc.kl (fun _ => rfl) (fun z => Bool.noConfusion z)) (fun z => Bool.noConfusion z)⟩
  · exact ⟨_, h, kitAny_cons hc.kt (fun _ => kitAny_cons hc.kl (fun _ => rfl) (fun z => Bool.noConfusion z)) (fun z => Bool.noConfusion z)⟩
section
variable {X : Cx} {E : List Sl} {a : Expr} {x : PyData}
theorem de_isSeq {pos nm pt p1 p2 : Pos} {kk : Nat} (ha : DE X E a x) (hg : Gl X "isinstance") (hm : X.mg "isinstance" = none) (hg1 : Gl X "tuple") (hm1 : X.mg "tuple" = none) (hg2 : Gl X "list") (hm2 : X.mg "list" = none)
    (hs1 : starEach [a, .Tuple [.Name "tuple" p1, .Name "list" p2] kk pt] X.env = (false, eval a X.env) :: starEach [.Tuple [.Name "tuple" p1, .Name "list" p2] kk pt] X.env := by rfl) (hs2 : starEach [.Tuple [.Name "tuple" p1, .Name "list" p2] kk pt] X.env = (false, eval (.Tuple [.Name "tuple" p1, .Name "list" p2] kk pt) X.env) :: starEach [] X.env := by rfl)
    (hpl : (backTo pos (starEach [.Tuple [.Name "tuple" p1, .Name "list" p2] kk pt] X.env)).any (·.1) = false := by rfl) : DE X E (.Call (.Name "isinstance" nm) [a, .Tuple [.Name "tuple" p1, .Name "list" p2] kk pt] [] pos) (.bool (isSeq x)) := by
  obtain ⟨ta, a1, a2⟩ := ha
  have c1 : PE X (.Name "tuple" p1) (tC (.ty "tuple")) := pe_bltn hg1 hm1 (by decide +kernel) rfl (by decide) (by decide)
  have c2 : PE X (.Name "list" p2) (tC (.ty "list")) := pe_bltn hg2 hm2 (by decide +kernel) rfl (by decide) (by decide)
  refine ⟨_, pe_callB call_isTY hg hm (by decide +kernel) (pa_cons a1 (pa_cons (pe_tup (pa_cons c1 (pa_cons c2 pa_nil rfl) rfl)) pa_nil hs2) hs1) (he := hs1) (hpl := hpl), fun M L H σ Q I k' => a2 M L H σ _ I fun v H1 s1 r1 => ?_⟩
  refine ⟨by show 2 ≤ sizeLine; rw [sizeLine_eq]; decide, fun q hq => ?_⟩
  have sq : Same H1 (upd H1 q (.tup [.ty "tuple", .ty "list"])) := same_new hq
  obtain ⟨t, k1, k2⟩ := (R.same (fz_sub.trans sq) _ _ r1).kitSeq
  exact ⟨v, q, [.ty "tuple", .ty "list"], t, [.type "tuple", .type "list"], isSeq x, rfl, upd_same, .cons (.ty "tuple") (.cons (.ty "list") .nil), k1, k2, k' _ _ (s1.trans sq) (.bl _)⟩
end
end D

end

section
set_option Elab.async false
set_option linter.all false
set_option autoImplicit false
set_option maxRecDepth 100000
set_option maxHeartbeats 2000000
namespace D
open PySem L2 PySem.Spec PyProof.Rows
/-! ### for x in xs: x[1].append(e), where xs are the frame's own pairs -/
theorem le_setNo : ∀ (E : List Sl) (o : Nat), Le E (E.set o .no)
  | [], _ => .nil
  | s :: E, 0 => .drop (Le.refl E)
  | s :: E, o + 1 => .same (le_setNo E o)
theorem set_no {E : List Sl} {o : Nat} (h : E[o]? = some .no) : E.set o .no = E := by
  apply List.ext_getElem?
  intro i
  by_cases e : o = i
  · subst e
    rw [h]
    have hl := (List.getElem?_eq_some_iff.mp h).1
    rw [List.getElem?_set_self hl]
  · rw [List.getElem?_set_ne e]
section
variable {X : Cx} {W : WX} {E E' : List Sl} {e obj : Expr} {pos : Pos} {t u : OT} {ts : List OT} {i : Nat} {p : List Nat} {P : Out → Prop}
/-- obj.append(e) at one state, by what obj stands for there -/
theorem app_at {ap cp : Pos} {M L : List Addr} {H : Hp} {σ : L2.St} {DD : Ends} {ta : TE} (I : EnvR X.K M L H σ E) (k : ∀ L' H', Step L H L' H' → EnvR X.K M L' H' σ E' → DD.nx σ H') (a1 : PE X obj ta)
    (a2 : ∀ Q : VK, (∀ v H', Same H H' → (∃ z, σ[i]? = some (some z) ∧ At H' z p v) → Q v H') → ta σ H Q) (he : DN X E e u) (g : E[i]? = some (.o t)) (hs : t.sub p = some (.l ts)) (hl : ts.length < sizeLine) (hE : E.set i (.o (t.put p (.l (ts ++ [u])))) = E')
    (hbase : attributeBase obj "append" X.env (eval obj X.env) = eval obj X.env := by rfl)
    (hfew : ((backTo cp (starEach [e] X.env)).all (fun x => !x.1) && (backToKw cp (keywordEach [] X.env)).all (fun x => x.1.isSome) && decide ([e].length + ([] : List Keyword).length + (if ([] : List Keyword).isEmpty then 0 else 1) < 30)) = true := by rfl)
    (hline : (ap.endLine == cp.line) = true := by rfl) (hst : starEach [e] X.env = (false, eval e X.env) :: starEach [] X.env := by rfl) (hplain : (backTo cp (starEach [] X.env)).any (·.1) = false := by rfl)
    (hsw : swapsWith (.Call (.Attribute obj "append" ap) [e] [] cp) none pos.line X.env = pure false := by rfl) :
    ∃ tt, PS X (.Expr (.Call (.Attribute obj "append" ap) [e] [] cp) pos) tt ∧ tt DD σ H := by
  obtain ⟨te, e1, e2⟩ := he
  refine ⟨_, ps_expr (pe_bm PySem.F.plainAttrs_list PySem.F.slot_list_append PySem.F.type_list_append mt_append a1 (pa_cons e1 pa_nil hst) hbase hfew hline hst hplain) hsw, a2 _ fun v H0 s0 ⟨z, hz, at0⟩ => ?_⟩
  have I0 := I.same s0
  obtain ⟨z', q, vs, G, h1, h2, h3, h4, h5, h6, h7, h8⟩ := I0.mutP g hs
  rw [hz] at h1
  cases h1
  have ev := at0.det h2
  subst ev
  refine ⟨.inl ⟨rfl, vs, .inl (.inl h3)⟩, ?_⟩
  refine e2 M L H0 σ _ I0 fun w H1 F s1 nF hF o => ?_
  obtain ⟨f1, f2⟩ := fresh_own s1 hF o
  have m : Owns X.K (F ++ (L ++ M)) H1 vs ts G := Owns.mono f2 _ _ _ (fun a ha => by
    obtain ⟨y1, ws, y2⟩ := Owns.sub _ _ _ h4 a ha
    exact ⟨List.mem_append_right _ y1, by rw [s1 _ _ y2, y2]⟩) h4
  obtain ⟨q1, q2⟩ := h8 H1 F s1 f1 (vs ++ [w]) (ts ++ [u]) (G ++ (F ++ [])) (m.append (.cons o .nil)) (List.nodup_append.mpr ⟨h5, by simpa using nF, fun a ha b hb y => by
      obtain ⟨_, ws, y2⟩ := Owns.sub _ _ _ h4 a ha
      rw [y, hF b (by simpa using hb)] at y2
      cases y2⟩) (fun a ha => by
      rcases List.mem_append.mp ha with y | y
      · exact .inl y
      · exact .inr (by simpa using y))
  exact ⟨q, vs, w, rfl, rfl, s1 _ _ h3, by rw [h4.length]; exact hl, k (F ++ L) _ ((Step.same s0).trans q2) (hE ▸ q1)⟩
end
section
variable {α β : Type} {f : α → PyData} {g : β → PyData}
/-- the first i of them changed -/
def dn1 (y : β) (v : List (α × List β)) (i : Nat) : List (α × List β) := (v.take i).map (fun p => (p.1, p.2 ++ [y])) ++ v.drop i
theorem dn1_len (y : β) (v : List (α × List β)) (i : Nat) (h : i ≤ v.length) : (dn1 y v i).length = v.length := by
  unfold dn1
  rw [List.length_append, List.length_map, List.length_take, List.length_drop]
  omega
theorem dn1_get (y : β) (v : List (α × List β)) {i : Nat} {p : α × List β} (h : v[i]? = some p) : (dn1 y v i)[i]? = some p := by
  have hl := (List.getElem?_eq_some_iff.mp h).1
  unfold dn1
  rw [List.getElem?_append_right (by rw [List.length_map, List.length_take]; omega), List.length_map, List.length_take, Nat.min_eq_left (by omega), Nat.sub_self, List.getElem?_drop]
  simpa using h
theorem dn1_set (y : β) (v : List (α × List β)) {i : Nat} {p : α × List β} (h : v[i]? = some p) : (dn1 y v i).set i (p.1, p.2 ++ [y]) = dn1 y v (i + 1) := by
  obtain ⟨hl, he⟩ := List.getElem?_eq_some_iff.mp h
  unfold dn1
  rw [List.set_append_right _ _ (by rw [List.length_map, List.length_take]; omega), List.length_map, List.length_take, Nat.min_eq_left (by omega), Nat.sub_self, List.drop_eq_getElem_cons hl, he, List.set_cons_zero, List.take_add_one, h]
  simp
theorem ds_forAl {X : Cx} {W : WX} {E E' : List Sl} {e : Expr} {P : Out → Prop} {k o : Nat} {n1 n2 : Str} {p1 p2 np ap cp sp ip pos pos2 : Pos} {j : Nat} {v : List (α × List β)} {y : β} (C : CxF X W) (N : LocN X o n1) (hv : ∀ p, PE X (.Name n1 p) (tVar o)) (hw : PE X (.Name n2 p2) (tVar k))
    (hk : E[k]? = some (.o (oS (oPL f g) v))) (ho : E[o]? = some .no) (hok : o ≠ k) (he : ∀ E1 : List Sl, (∀ m, m ≠ k → m ≠ o → E1[m]? = E[m]?) → DE X E1 e (g y)) (hlen : ∀ q ∈ v, q.2.length < sizeLine)
    (hE : E.set k (.o (oS (oPL f g) (v.map fun p => (p.1, p.2 ++ [y])))) = E')
    (hf : ∀ x, foldedSetIterable (.Name n2 p2) X.env x = pure x := by intro _; rfl)
    (hbase : attributeBase (.Subscript (.Name n1 np) (.Constant (.int 1) j ip) sp) "append" X.env (eval (.Subscript (.Name n1 np) (.Constant (.int 1) j ip) sp) X.env) = eval (.Subscript (.Name n1 np) (.Constant (.int 1) j ip) sp) X.env := by rfl)
    (hfew : ((backTo cp (starEach [e] X.env)).all (fun x => !x.1) && (backToKw cp (keywordEach [] X.env)).all (fun x => x.1.isSome) && decide ([e].length + ([] : List Keyword).length + (if ([] : List Keyword).isEmpty then 0 else 1) < 30)) = true := by rfl)
    (hline : (ap.endLine == cp.line) = true := by rfl) (hst : starEach [e] X.env = (false, eval e X.env) :: starEach [] X.env := by rfl) (hplain : (backTo cp (starEach [] X.env)).any (·.1) = false := by rfl)
    (hsw : swapsWith (.Call (.Attribute (.Subscript (.Name n1 np) (.Constant (.int 1) j ip) sp) "append" ap) [e] [] cp) none pos2.line X.env = pure false := by rfl) :
    DS X W (.For (.Name n1 p1) (.Name n2 p2) [.Expr (.Call (.Attribute (.Subscript (.Name n1 np) (.Constant (.int 1) j ip) sp) "append" ap) [e] [] cp) pos2] [] pos) E (th (· = E') P) := by
  refine ⟨fun M L H σ DD EI kk => ?_⟩
  have hkl : k < E.length := (List.getElem?_eq_some_iff.mp hk).1
  have hol : o < E.length := (List.getElem?_eq_some_iff.mp ho).1
  obtain ⟨z0, G0, g1, g2, g3, g4⟩ := EI.get hk
  cases g2 with
  | @l pT vs0 _ _ hp hl howns =>
  refine ⟨_, ps_for C.pass C.calm (pi_list hw) (pg_name N.nd N.ix N.loc N.fn) pss_all hf, ?_⟩
  refine ⟨.ref pT, g1, pT, rfl, ⟨vs0, .inl (.inl hl)⟩, ?_⟩
  have own : ∀ (L' : List Addr) (H' : Hp) (σ' : L2.St) (v' : List (α × List β)) (E1 : List Sl), EnvR X.K M L' H' σ' E1 → E1[k]? = some (.o (oS (oPL f g) v')) → σ'[k]? = some (some (.ref pT)) → ∃ vs, H' pT = some (.lst vs) ∧ vs.length = v'.length := by
    intro L' H' σ' v' E1 I1 hk1 hs1
    obtain ⟨z, G, q1, q2, _⟩ := I1.get hk1
    rw [hs1] at q1
    cases q1
    cases q2 with
    | l hp hl ho => exact ⟨_, hl, by rw [ho.length, List.length_map]⟩
  let Eo : Nat → List Sl := fun i => E.set k (.o (oS (oPL f g) (dn1 y v i)))
  have Eok : ∀ i, (Eo i)[k]? = some (.o (oS (oPL f g) (dn1 y v i))) := fun i => List.getElem?_set_self hkl
  have Eoo : ∀ i, (Eo i)[o]? = some .no := fun i => by show (E.set k _)[o]? = _; rw [List.getElem?_set_ne (Ne.symm hok)]; exact ho
  have wk : Walk (Itl X.K pT) v.length (fun H' => ∃ vs, H' pT = some (.lst vs) ∧ vs.length = v.length) (fun i H1 x H2 => H2 = H1 ∧ ∀ xs, SqL X.K H1 pT xs → xs[i]? = some x) := by
    refine ⟨fun i H1 hi ⟨vs, h1, h2⟩ => ⟨vs, vs[i]'(by omega), .inl (.inl h1), List.getElem?_eq_getElem (by omega)⟩, fun H1 ⟨vs, h1, h2⟩ => ⟨vs, .inl (.inl h1), by omega⟩, fun i H1 x H2 _ _ h => h⟩
  refine for_it wk (fun i σ' H' => ∃ L', EnvR X.K M L' H' σ' (Eo i) ∧ Step L H L' H' ∧ σ'[k]? = some (some (.ref pT))) ⟨L, ?_, Step.refl L H, g1⟩ ?_ ?_ ?_
  · have : Eo 0 = E := by
      show E.set k (.o (oS (oPL f g) (dn1 y v 0))) = E
      have e0 : dn1 y v 0 = v := by simp [dn1]
      rw [e0]
      obtain ⟨q1, q2⟩ := List.getElem?_eq_some_iff.mp hk
      rw [← q2, List.set_getElem_self]
    rw [this]
    exact EI
  · rintro i σ' H' hi ⟨L', i1, _, s1⟩
    obtain ⟨vs, q1, q2⟩ := own L' H' σ' _ _ i1 (Eok i) s1
    exact ⟨vs, q1, by rw [q2, dn1_len y v i hi]⟩
  · rintro i x σ' H' H2 hi ⟨L', i1, st1, s1⟩ ⟨rfl, hx⟩
    obtain ⟨pr, hpr⟩ : ∃ pr, v[i]? = some pr := ⟨v[i], List.getElem?_eq_getElem hi⟩
    have hdn := dn1_get y v hpr
    obtain ⟨z, G, q1, q2, q3, q4⟩ := i1.get (Eok i)
    rw [s1] at q1
    cases q1
    obtain ⟨xv, G1, t1, t2, _⟩ := Own.trace [i] q2 (q4) (s := oPL f g pr) (by
      show ((dn1 y v i).map (oPL f g))[i]?.bind _ = _
      rw [List.getElem?_map, hdn]
      rfl)
    obtain ⟨vs, h1, h2⟩ := own L' H2 σ' _ _ i1 (Eok i) s1
    have exv : xv = x := by
      cases t1 with
      | l a1 a2 a3 =>
        cases a3
        rw [h1] at a1
        cases a1
        have := hx vs (.inl (.inl h1))
        rw [a2] at this
        exact Option.some.inj this
      | t a1 a2 a3 => rw [h1] at a1; cases a1
    subst exv
    cases t2 with
    | @t qx vs2 _ _ hq hown =>
    have hq' : H2 qx = some (.tup vs2) := fz_sub _ _ hq
    have hl2 : vs2.length = 2 := by rw [hown.length]; rfl
    have I2 : EnvR X.K M L' H2 (σ'.set o (some (.ref qx))) ((Eo i).set o (.raw (.ref qx))) := i1.setRaw (by show o < (E.set k _).length; rw [List.length_set]; exact hol)
    have sk : (σ'.set o (some (.ref qx)))[k]? = some (some (.ref pT)) := by rw [List.getElem?_set_ne hok]; exact s1
    have so : (σ'.set o (some (V.ref qx)))[o]? = some (some (.ref qx)) := by
      have := I2
      obtain ⟨⟨F, hs, _⟩, _⟩ := this
      exact hs.getRaw (by rw [List.getElem?_set_self (by show o < (E.set k _).length; rw [List.length_set]; exact hol)])
    have hEk : ((Eo i).set o (.raw (.ref qx)))[k]? = some (.o (oS (oPL f g) (dn1 y v i))) := by rw [List.getElem?_set_ne hok]; exact Eok i
    show tAll X _ _ _ _
    have kk2 := kk.step st1
    have hsub : (oS (oPL f g) (dn1 y v i)).sub [i, 1] = some (oL g pr.2) := by
      show (((dn1 y v i).map (oPL f g))[i]?.bind fun u => u.sub [1]) = _
      rw [List.getElem?_map, hdn]
      rfl
    obtain ⟨b, c1, c2⟩ := (de_int (X := X) (E := (Eo i).set o (.raw (.ref qx))) (i := 1) (j := j) (pos := ip)).ex
    have app := app_at (X := X) (E := (Eo i).set o (.raw (.ref qx))) (E' := (Eo (i + 1)).set o (.raw (.ref qx))) (e := e) (u := .d (g y)) (pos := pos2) (ap := ap) (cp := cp) (i := k) (p := [i, 1]) (DD := { DD with nx := fun σ3 H3 => ∃ L', EnvR X.K M L' H3 σ3 (Eo (i + 1)) ∧ Step L H L' H3 ∧ σ3[k]? = some (some (.ref pT)), ct := fun σ3 H3 => ∃ L', EnvR X.K M L' H3 σ3 (Eo (i + 1)) ∧ Step L H L' H3 ∧ σ3[k]? = some (some (.ref pT)), bk := DD.nx }) I2
      (fun L3 H3 t J3 => ?_)
      (pe_ix ix_tup (hv np) c1 (fun _ _ => rfl)) (fun Q hQ => ?_) (he _ (fun m m1 m2 => by rw [List.getElem?_set_ne (Ne.symm m2)]; show (E.set k _)[m]? = _; rw [List.getElem?_set_ne (Ne.symm m1)])).toN hEk hsub (by rw [List.length_map, List.length_map]; exact hlen pr (List.mem_of_getElem? hpr)) ?_ hbase hfew hline hst hplain hsw
    · obtain ⟨tt, a1, a2⟩ := app
      exact ⟨_, pss_one a1, a2⟩
    · refine ⟨L3, ?_, st1.trans t, sk⟩
      have := J3.le (le_setNo _ o)
      rw [List.set_set, set_no (Eoo (i + 1))] at this
      exact this
    · refine ⟨_, so, c2 M L' H2 _ _ I2 fun w H3 s3 r3 => ?_⟩
      cases r3
      obtain ⟨w2, hw2⟩ : ∃ w2, vs2[1]? = some w2 := ⟨vs2[1]'(by omega), List.getElem?_eq_getElem (by omega)⟩
      have e3 : atI vs2 1 = some w2 := by
        unfold atI
        rw [hl2]
        exact hw2
      exact ⟨qx, vs2, 1, w2, rfl, rfl, .inl (.inl (s3 _ _ hq')), e3, hQ _ H3 s3 ⟨_, sk, (t1.same s3).snocT (s3 _ _ hq') hw2⟩⟩
    · show ((Eo i).set o (.raw (.ref qx))).set k _ = (E.set k _).set o _
      rw [List.set_comm _ _ hok]
      show ((E.set k _).set k _).set o _ = _
      rw [List.set_set]
      congr 3
      show OT.l (((dn1 y v i).map (oPL f g)).set i (((((dn1 y v i).map (oPL f g))[i]?).getD (.d .none)).put [1] _)) = OT.l _
      rw [List.getElem?_map, hdn, ← dn1_set y v hpr, List.map_set]
      congr 2
      show OT.t [.d (f pr.1), .l (((pr.2.map g).map .d) ++ [.d (g y)])] = OT.t [.d (f pr.1), .l (((pr.2 ++ [y]).map g).map .d)]
      rw [List.map_append, List.map_append]
      rfl
  · rintro σ' H' ⟨L', i1, st1, s1⟩
    refine kk.nx E' L' H' σ' rfl st1 ?_
    rw [← hE]
    have : dn1 y v v.length = v.map fun p => (p.1, p.2 ++ [y]) := by simp [dn1]
    show EnvR X.K M L' H' σ' (E.set k _)
    rw [← this]
    exact i1
end
end D

end

section
set_option Elab.async false
set_option linter.all false
set_option autoImplicit false
set_option maxRecDepth 100000
set_option maxHeartbeats 2000000
namespace D
open PySem L2 PySem.Spec PyProof.Rows
theorem ble_self : ∀ n : Nat, Nat.ble n n = true
  | 0 => rfl
  | n + 1 => ble_self n
theorem rng_mem {lo : Int} {n : Nat} {a : Int} (h : a ∈ rng lo n) : lo ≤ a ∧ a < lo + n := by
  obtain ⟨i, hi⟩ := List.getElem?_of_mem h
  have := rng_get hi
  omega
theorem seq_or {x : PyData} (h : isSeq x = true) : isTuple x = true ∨ isList x = true := by
  cases x <;> first | exact .inl rfl | exact .inr rfl | exact Bool.noConfusion h
section
variable {K : PySem.W.Frag} {M L : List Addr} {H H' : Hp} {σ : L2.St} {E : List Sl}
/-- a name gets a part of something new -/
theorem EnvR.setPart {i : Nat} {v : V} {t : OT} {F F1 : List Addr} (h : EnvR K M L H σ E) (hi : i < E.length) (e : Same H H') (hF : ∀ a ∈ F, H a = none ∧ H' a ≠ none) (n1 : F1.Nodup) (h1 : ∀ a ∈ F1, a ∈ F) (ho : Own K (F ++ (L ++ M)) H' v t F1) :
    EnvR K M (F ++ L) H' (σ.set i (some v)) (E.set i (.o t)) := by
  have h2 : EnvR K M (F ++ L) H' σ E := h.more e hF
  obtain ⟨⟨G0, hs0, nG0, hL0⟩, dom0, dj0⟩ := h
  have hs2 : Slots K (F ++ L ++ M) H' σ E G0 := hs0.mono (fz_mono fun a o n q => ⟨fun z => by
      rw [List.append_assoc] at z
      rcases List.mem_append.mp z with z | z
      · rw [(hF a z).1] at q; cases q
      · exact n z, e a o q⟩) (fun a ha => by
        obtain ⟨h1, vs, h3⟩ := hs0.sub a ha
        exact ⟨by rw [List.append_assoc]; exact List.mem_append_right _ h1, eq_same e h3⟩)
  rw [← List.append_assoc] at ho
  obtain ⟨F', h3, h4, h5⟩ := hs2.set ho n1 i hi nG0 (fun a ha hb => dom0 a (List.mem_append_left _ (hL0 a hb)) (hF a (h1 a ha)).1)
  exact ⟨⟨F', h3, h4, fun a ha => (h5 a ha).elim (fun z => List.mem_append_right _ (hL0 a z)) fun z => List.mem_append_left _ (h1 a z)⟩, h2.dom, h2.dj⟩
end
section
variable {X : Cx} {W : WX} {E E' : List Sl} {e a b : Expr} {pos : Pos} {t u : OT} {x : PyData} {P : Out → Prop} {rest : List Stmt}
/-- return [name, e]: the name's own thing and data -/
theorem ds_retHL {k : Nat} {lp : Pos} (ha : PE X a (tVar k)) (g : E[k]? = some (.o t)) (hb : DE X E b x) (h : P (.rt (.l [t, .d x]))) (hs1 : starEach [a, b] X.env = (false, eval a X.env) :: starEach [b] X.env := by rfl) (hs2 : starEach [b] X.env = (false, eval b X.env) :: starEach [] X.env := by rfl) :
    DSs X W (.Return (some (.List [a, b] lp)) pos :: rest) E P := by
  obtain ⟨tb, b1, b2⟩ := hb
  refine ⟨fun M L H σ D I k' => ⟨_, pss_cons (ps_ret (pe_lst (pa_cons ha (pa_cons b1 pa_nil hs2) hs1))) pss_all, ?_⟩⟩
  obtain ⟨v, G, g1, g2, g3, g4⟩ := I.get g
  refine ⟨v, g1, b2 M L H σ _ I fun w H1 s1 r1 => ⟨by show 2 ≤ sizeLine; rw [sizeLine_eq]; decide, fun p hp => ?_⟩⟩
  have sp : Same H1 (upd H1 p (.lst [v, w])) := same_new hp
  have s := s1.trans sp
  have hp0 : H p = none := s1.free hp
  have pG : p ∉ G := fun z => by
    obtain ⟨_, ws, q⟩ := Own.sub _ _ _ g2 p z
    rw [hp0] at q; cases q
  have sz : Same (fz (L ++ M) H) (fz ((p :: L) ++ M) (upd H1 p (.lst [v, w]))) := fz_mono fun a o n q => ⟨fun z => by
    rcases List.mem_cons.mp z with z | z
    · rw [z, hp0] at q; cases q
    · exact n z, s a o q⟩
  have o1 : Own X.K ((p :: L) ++ M) (upd H1 p (.lst [v, w])) v t G := Own.mono sz _ _ _ (fun a ha => by
    obtain ⟨h1, ws, h2⟩ := Own.sub _ _ _ g2 a ha
    exact ⟨List.mem_cons_of_mem _ h1, eq_same s h2⟩) g2
  have sz1 : Same (fz (L ++ M) H1) (fz ((p :: L) ++ M) (upd H1 p (.lst [v, w]))) := fz_mono fun a o n q => ⟨fun z => by
    rcases List.mem_cons.mp z with z | z
    · rw [z, hp] at q; cases q
    · exact n z, sp a o q⟩
  refine k'.rt _ (.ref p) (p :: L) _ (p :: (G ++ ([] ++ []))) h ⟨fun a o n q => s a o q, fun a ha => ?_, fun a z => not_none_same s z⟩ (fun a ha => ?_) (fun a ha => ?_) (List.nodup_cons.mpr ⟨by simpa using pG, by simpa using g4⟩) (.l List.mem_cons_self upd_same (.cons o1 (.cons (.d (R.same sz1 _ _ r1)) .nil)))
  · rcases List.mem_cons.mp ha with z | z
    · exact .inr (z ▸ hp0)
    · exact .inl z
  · rcases List.mem_cons.mp ha with z | z
    · rw [z, upd_same]; exact fun z => by cases z
    · exact not_none_same s (I.dom a z)
  · rcases List.mem_cons.mp ha with z | z
    · rw [z]; exact List.mem_cons_self
    · exact List.mem_cons_of_mem _ (g3 a (by simpa using z))
/-- a, b = e: a new list of an own thing and data -/
theorem ds_unpHL {i j : Nat} {n m : Str} {px py pt : Pos} {kt : Nat} (C : CxF X W) (N : LocN X i n) (M2 : LocN X j m) (hij : i ≠ j) (he : DN X E e (.l [t, .d x])) (hE : (E.set i (.o t)).set j (.o (.d x)) = E' := by rfl) (hi : Nat.ble (i + 1) E.length = true := by rfl) (hj : Nat.ble (j + 1) E.length = true := by rfl)
    (hs : swapsWithSole [.Tuple [.Name n px, .Name m py] kt pt] e pos.line X.env = pure false := by rfl) (hw : swappedStores [.Tuple [.Name n px, .Name m py] kt pt] e X.env = pure none := by rfl) (h1 : (assignEach [.Tuple [.Name n px, .Name m py] kt pt] X.env).map (·.2) = [assign (.Tuple [.Name n px, .Name m py] kt pt) X.env] := by rfl)
    (hs1 : (assignEach [.Name n px, .Name m py] X.env).map (·.2) = assign (.Name n px) X.env :: (assignEach [.Name m py] X.env).map (·.2) := by rfl) (hs2 : (assignEach [.Name m py] X.env).map (·.2) = assign (.Name m py) X.env :: (assignEach [] X.env).map (·.2) := by rfl)
    (hn : (assignEach [.Name n px, .Name m py] X.env).length = 2 := by rfl) (hst : (assignEach [.Name n px, .Name m py] X.env).findIdx? (·.1) = none := by rfl) :
    DS X W (.Assign [.Tuple [.Name n px, .Name m py] kt pt] e pos) E (th (· = E') P) := by
  obtain ⟨te, e1, e2⟩ := he
  refine ⟨fun M L H σ D I k => ⟨_, ps_asg e1 (pg_lst C.calm (pgs_cons (pg_name N.nd N.ix N.loc N.fn) (pgs_cons (pg_name M2.nd M2.ix M2.loc M2.fn) pgs_nil hs2) hs1) hn hst) hs hw h1, e2 M L H σ _ I fun w H1 F s1 nF hF o => ?_⟩⟩
  cases o with
  | @l p vs _ G hp hl ho =>
    cases ho with
    | @cons v1 _ F1 _ _ G1 o1 ho =>
      cases ho with
      | @cons v2 _ F2 _ _ G2 o2 ho =>
        cases ho
        cases o2 with
        | d r2 =>
          refine ⟨p, [v1, v2], rfl, .inl (.inl hl), rfl, v1, [v2], rfl, v2, [], rfl, rfl, ?_⟩
          have hF2 : ∀ a ∈ p :: (F1 ++ ([] ++ [])), H a = none ∧ H1 a ≠ none := fun a ha => ⟨hF a ha, fun z => by
            rcases List.mem_cons.mp ha with q | q
            · rw [q, hl] at z; cases z
            · obtain ⟨_, ws, y⟩ := Own.sub _ _ _ o1 a (by simpa using q)
              rw [y] at z; cases z⟩
          have I2 := I.setPart (i := i) (Nat.le_of_ble_eq_true hi) s1 hF2 (by have := (List.nodup_cons.mp nF).2; simpa using this) (fun a ha => List.mem_cons_of_mem _ (by simpa using ha)) o1
          have I3 := I2.setD (i := j) (by rw [List.length_set]; exact Nat.le_of_ble_eq_true hj) (by rw [List.append_assoc]; exact r2)
          exact k.nx E' _ H1 _ rfl (Step.more s1 hF) (hE ▸ I3)
end
section
variable {X : Cx} {W : WX} {E E' : List Sl} {e : Expr} {pos : Pos} {α β : Type} {f : α → PyData} {g : β → PyData} {v : List (α × List β)} {y : α × List β} {P : Out → Prop}
/-- xs.append(a new pair), xs of the frame's own pairs -/
theorem ds_appendQ {nx : Str} {np ap cp : Pos} (i : Nat) (hv : ∀ p, PE X (.Name nx p) (tVar i)) (he : DN X E e (oPL f g y)) (hg : E[i]? = some (.o (oS (oPL f g) v))) (hl : v.length < sizeLine) (hE : E.set i (.o (oS (oPL f g) (v ++ [y]))) = E' := by rfl)
    (hbase : attributeBase (.Name nx np) "append" X.env (eval (.Name nx np) X.env) = eval (.Name nx np) X.env := by rfl)
    (hfew : ((backTo cp (starEach [e] X.env)).all (fun x => !x.1) && (backToKw cp (keywordEach [] X.env)).all (fun x => x.1.isSome) && decide ([e].length + ([] : List Keyword).length + (if ([] : List Keyword).isEmpty then 0 else 1) < 30)) = true := by rfl)
    (hline : (ap.endLine == cp.line) = true := by rfl) (hst : starEach [e] X.env = (false, eval e X.env) :: starEach [] X.env := by rfl) (hplain : (backTo cp (starEach [] X.env)).any (·.1) = false := by rfl)
    (hsw : swapsWith (.Call (.Attribute (.Name nx np) "append" ap) [e] [] cp) none pos.line X.env = pure false := by rfl) :
    DS X W (.Expr (.Call (.Attribute (.Name nx np) "append" ap) [e] [] cp) pos) E (th (· = E') P) :=
  ds_appendP (p := []) (dp_v i (hv _) hg) he hg rfl (by simpa using hl) (by
    rw [← hE]
    show E.set i (.o (.l (v.map (oPL f g) ++ [oPL f g y]))) = E.set i (.o (.l ((v ++ [y]).map (oPL f g))))
    rw [List.map_append]
    rfl) hbase hfew hline hst hplain hsw
end
end D

end

section
set_option Elab.async false
set_option linter.all false
set_option autoImplicit false
set_option maxRecDepth 100000
set_option maxHeartbeats 2000000
namespace D
open PySem L2 PySem.Spec PyProof.Rows
/-- K's words of a class without __init__ -/
structure Bare (K : PySem.W.Frag) (C : Addr) : Prop where
  makes : PySem.W.makesIn K C = true
  init : PySem.W.findIn K (.ref C) "__init__" = some (some (.builtin "object.__init__"))
  kp : PySem.W.keepIn K (.ref C) = true
  top : PySem.W.mroIn K C (.type "object") = some true
theorem run_bare {X : Cx} {pins : List (Addr × Obj)} {σ : L2.St} {H : Hp} {s : Shared} {Q : VK} {C : Addr} (B : Bare X.K C) (I : Inv X pins σ H s)
    (h : ∀ x dx, H x = none → H dx = none → dx ≠ x → Q (.ref x) (upd (upd H dx (.own x)) x (.ins C dx []))) :
    wpAny (model X.prog X.w) X.A (call (.ref C) []) (EP X pins σ Q) X.xe s := by
  have hq := h (s.heap.objs.size + 1) s.heap.objs.size (I.hok.fresh (Nat.le_succ _)) (I.hok.fresh (Nat.le_refl _)) (Nat.ne_of_lt (Nat.lt_succ_self _))
  have I2 := Inv.made (C := C) I
  refine wpAny_call (make_map0 I.kIn B.makes B.init (fun self => PySem.W.Looks.of_pure (PySem.W.oi_bind _)) ?_)
  have t1 : PySem.W.Looks (model X.prog X.w) ((s.heap.push PySem.W.emptyDict).push (PySem.W.instObj C s.heap.objs.size)) (typeOf (.ref (s.heap.objs.size + 1))) (.ref C) :=
    NwA.type_at (o := PySem.W.instObj C s.heap.objs.size) (by
      have := Heap.get?_push_size (s.heap.push PySem.W.emptyDict) (o := PySem.W.instObj C s.heap.objs.size) rfl
      rwa [Heap.size_push] at this) rfl
  have t2 : PySem.W.Looks (model X.prog X.w) ((s.heap.push PySem.W.emptyDict).push (PySem.W.instObj C s.heap.objs.size)) (isInstance (.ref (s.heap.objs.size + 1)) (.type "object")) true := t1.andThen (PySem.W.looks_mroIn I2.kIn B.top)
  refine codeAny_call_builtin PySem.W.oi_plain PySem.W.entry_oi (@PySem.W.check_slot (model X.prog X.w) _ _ _ "object.__init__" "object" "__init__" (.ref (s.heap.objs.size + 1)) [] [] _ PySem.W.oi_kind PySem.W.oi_split t2 (NwA.oi_args_any _ _ _) ?_)
  rw [PySem.W.oi_run]
  exact wpAny_pure ⟨rfl, V.ref (s.heap.objs.size + 1), _, I2, rfl, hq⟩
theorem pe_bare {X : Cx} {C : Addr} {x : Str} {p pos : Pos} (B : Bare X.K C) (hg : Gl X x) (hm : X.mg x = some (.ref C)) (hdb : (x == ("__debug__" : Str)) = false := by decide) :
    PE X (.Call (.Name x p) [] [] pos) (fun _ H Q => ∀ y dx, H y = none → H dx = none → dx ≠ y → Q (.ref y) (upd (upd H dx (.own y)) y (.ins C dx []))) := by
  refine ⟨fun pins s σ H Q I h => ?_⟩
  refine wpAny_Call_Name_kw (ld_glob I hg hm ?_ hdb)
  exact PySem.W.callWith_K0 I.kIn B.kp (run_bare B I h)
/-- a class told by a number; its instances as data -/
abbrev eI (A : Nat → Addr) (c : Nat) : PyData := .dict [(.int (A c : Int), .none)]
theorem R.insOf {K : PySem.W.Frag} {H : Hp} {v : V} {C : Addr} (r : R K H v (.dict [(.int (C : Int), .none)])) : ∃ a dx, v = .ref a ∧ H a = some (.ins C dx []) ∧ InsC K C := by
  generalize hd : PyData.dict [(.int (C : Int), .none)] = d at r
  cases r with
  | ins h hc =>
    rename_i a dx C'
    have e : (C' : Int) = (C : Int) := by
      have := hd
      simp only [PyData.dict.injEq, List.cons.injEq, Prod.mk.injEq, PyData.int.injEq, and_true] at this
      exact this.symm
    have e2 : C' = C := by exact Int.ofNat.inj e
    subst e2
    exact ⟨_, _, rfl, h, hc⟩
  | exc h hc hf => cases hd; cases hf
  | _ => cases hd
section
variable {X : Cx} {E : List Sl} {A : Nat → Addr} {c d : Nat} {a o e : Expr} {es : List Expr} {xs : List PyData} {y : PyData} {p : Bool}
/-- C() -/
theorem de_bare {x : Str} {pn pos : Pos} (c : Nat) (B : Bare X.K (A c)) (IC : InsC X.K (A c)) (hm : X.mg x = some (.ref (A c))) (hg : Gl X x) (hdb : (x == ("__debug__" : Str)) = false := by decide) : DE X E (.Call (.Name x pn) [] [] pos) (eI A c) := by
  refine ⟨_, pe_bare B hg hm hdb, fun M L H σ Q I k => ?_⟩
  intro y dx hy hdx hne
  have ny : y ∉ L ++ M := fun z => I.dom y z hy
  have s1 : Same H (upd H dx (.own y)) := same_new hdx
  have h2 : upd H dx (.own y) y = none := by rw [upd_ne (fun z => hne z.symm)]; exact hy
  have s2 : Same (upd H dx (.own y)) (upd (upd H dx (.own y)) y (.ins (A c) dx [])) := same_new h2
  exact k _ _ (s1.trans s2) (.ins (by rw [fz_of ny]; exact upd_same) IC)
/-- isinstance(x, D), x an instance -/
theorem de_isiC {nT : Str} {nm pT pos : Pos} (k : PySem.W.kitOne X.K (.ref (A c)) (.ref (A d)) = some p) (ha : DE X E a (eI A c)) (hg : Gl X "isinstance") (hm : X.mg "isinstance" = none) (hgT : Gl X nT) (hmT : X.mg nT = some (.ref (A d)))
    (hdT : (nT == ("__debug__" : Str)) = false := by decide)
    (hs1 : starEach [a, .Name nT pT] X.env = (false, eval a X.env) :: starEach [.Name nT pT] X.env := by rfl) (hs2 : starEach [.Name nT pT] X.env = (false, eval (.Name nT pT) X.env) :: starEach [] X.env := by rfl)
    (hpl : (backTo pos (starEach [.Name nT pT] X.env)).any (·.1) = false := by rfl) : DE X E (.Call (.Name "isinstance" nm) [a, .Name nT pT] [] pos) (.bool p) := by
  obtain ⟨ta, a1, a2⟩ := ha
  have hc : PE X (.Name nT pT) (tC (.ref (A d))) := pe_glob hgT hmT rfl hdT
  refine ⟨_, pe_callB call_isi hg hm (by decide +kernel) (pa_cons a1 (pa_cons hc pa_nil hs2) hs1) (he := hs1) (hpl := hpl), fun M L H σ Q I k' => a2 M L H σ _ I fun v H1 s1 r1 => ?_⟩
  obtain ⟨q, dx, rfl, h1, hi⟩ := R.insOf (R.same fz_sub _ _ r1)
  exact ⟨.ref q, .ref (A d), .ref (A c), .ref (A d), p, rfl, .own (A d), .base (.ins h1 hi.cls hi.ha hi.hn hi.ht hi.hm), k, k' _ H1 s1 (.bl p)⟩
/-- what a method promises, known by its place -/
structure FnM (X : Cx) (g : Addr) (n : Nat) (Rf : List PyData → Res → Prop) : Prop where
  ex : ∃ (fd : FuncData) (ps : List Str) (k : Nat), FnOk X.prog X.w X.K X.mg X.base (L2.CX X.prog X.w) k g fd ps (spD X.K n Rf) ∧ Room k X.A ∧ Binds X.K fd ps []
/-- o.m(e, ..) -/
theorem de_meth {n : Nat} {Rf : List PyData → Res → Prop} {m : Str} {g C : Addr} {apos pos : Pos} {pl : Sem Bool} (F : FnM X g n Rf) (hme : Meth X.K C m g) (ho : DE X E o (.dict [(.int (C : Int), .none)])) (ha : DA X E (e :: es) xs) (h : Rf (.dict [(.int (C : Int), .none)] :: xs) (.ok (.d y))) (hn : xs.length + 1 = n := by rfl)
    (hst : starEach (e :: es) X.env = (false, eval e X.env) :: starEach es X.env := by rfl) (hpl : (backTo pos (starEach es X.env)).any (·.1) = false := by rfl)
    (ht : eval (.Call (.Attribute o m apos) (e :: es) [] pos) X.env = (do
      let ov ← eval o X.env
      standAt apos.atName
      let (f, first) ← holding [ov] (getMethod ov m pl)
      callWith pos f first (backTo pos (starEach (e :: es) X.env)) (backToKw pos (keywordEach [] X.env))) := by rfl) (hcls : Cls X.K C) :
    DE X E (.Call (.Attribute o m apos) (e :: es) [] pos) y := by
  obtain ⟨fd, ps, k, ok, hr, hb⟩ := F.ex
  obtain ⟨to, o1, o2⟩ := ho
  obtain ⟨ta, a1, a2⟩ := ha
  refine ⟨_, pe_meth (pl := pl) o1 hcls hme ok hr hb .nil passL a1 hst hpl ht, fun M L H σ Q I kk => o2 M L H σ _ I fun v H1 s1 r1 => ?_⟩
  obtain ⟨q, dx, rfl, h1, hi⟩ := R.insOf (R.same fz_sub _ _ r1)
  refine ⟨q, dx, [], rfl, h1, rfl, a2 M L H1 σ _ (I.same s1) fun vs H2 s2 r2 => ?_⟩
  refine ⟨L ++ M, .dict [(.int (C : Int), .none)] :: xs, .ok (.d y), hn, ((I.same s1).same s2).dom, by rw [List.append_nil]; exact .cons (R.same (fz_same s2) _ _ r1) r2, h, fun v H' F s3 nF hF o => ?_⟩
  refine kk v H' ((s1.trans s2).trans s3) ?_
  exact Own.rd _ _ _ o (fun a o n e => ⟨fun z => n (List.mem_append_right _ z), e⟩) fun a ha => ⟨fun z => by
    have := ((I.same s1).same s2).dom a z
    exact this (hF a ha), rfl⟩
end
section
variable (P : Program) (w : World) (K : PySem.W.Frag) (mg : Str → Option Value) (base : Heap)
structure MCal (g : Addr) (n : Nat) (Rf : List PyData → Res → Prop) (k : Nat) : Prop where
  ex : ∃ (fd : FuncData) (ps : List Str), FnOk P w K mg base (L2.CX P w) k g fd ps (spD K n Rf) ∧ Binds K fd ps []
structure DefM (g : Addr) (f q : Str) (st : Stmt) (ps : List Str) : Prop where
  ex : ∃ (fd : FuncData), Fun K f q st g fd ∧ Binds K fd ps []
end
theorem MCal.at {X : Cx} {g : Addr} {n k j : Nat} {Rf : List PyData → Res → Prop} (c : MCal X.prog X.w X.K X.mg X.base g n Rf k) (hr : Room j X.A) (h : Nat.ble k j = true := by rfl) : FnM X g n Rf := by
  obtain ⟨fd, ps, h1, h2⟩ := c.ex
  exact ⟨fd, ps, k, h1, hr.mono (Nat.le_of_ble_eq_true h), h2⟩
theorem mcal_ok {P : Program} {w : World} {K : PySem.W.Frag} {mg : Str → Option Value} {base : Heap} {f q : Str} {g : Addr} {st : Stmt} {N ps : List Str} {k n : Nat} {Rf : List PyData → Res → Prop} (F : DefM K g f q st ps) (S : FnScope N ps (defScope st)) (hn : ps.length = n)
    (hbody : ∀ (cdv : Value) (A : Around) (outer : List Env) (s : Shared) (H : Hp) (E : XK) (X : Cx), X = cxOf (L2.CX P w) P w K mg base N q (defScope st) g cdv A outer s H E → CxF X (wF E) → Room k X.A → ∀ xs r, xs.length = n → Rf xs r → DSs X (wF E) (defBody st) (entry N.length xs) (fin r)) :
    MCal P w K mg base g n Rf (k + 1) := by
  obtain ⟨fd, h1, h3⟩ := F.ex
  exact ⟨fd, ps, fn_ok h1 S hn (fun cdv A outer s H E X => hbody cdv A outer s H E X), h3⟩
/-! ### what may be None -/
section
variable {X : Cx} {E : List Sl} {a : Expr} {α : Type} [Inhabited α] {f : α → PyData} {o : Option α}
theorem de_unO (h : DE X E a (eO f o)) (hn : o.isNone = false) : DE X E a (f (o.getD default)) := by
  cases o with
  | none => exact Bool.noConfusion hn
  | some x => exact h
end
theorem eqE_OI : EqE 0 (eO PyData.int) := ⟨fun a => by cases a <;> rfl, fun a => by cases a <;> rfl, fun a => by cases a <;> exact Nat.le_refl 0, fun a b => by
  cases a <;> cases b
  · rfl
  · rfl
  · rfl
  · rename_i x y
    show (x == y) = decide (some x = some y)
    by_cases h : x = y
    · subst h; simp
    · rw [decide_eq_false (fun z => h (Option.some.inj z))]
      simpa using h⟩
/-- a tuple of two whole numbers that stands in the module -/
theorem constT {K : PySem.W.Frag} {h : Heap} {mg : Str → Option Value} {n : Str} {a : Addr} {t u : Tok} {i j : Int} {m : Nat} {od : Option Addr} {sl : Array (Option Value)} (X : K.In h) (G : h.Ns mainGlobals mg) (e : PySem.W.nsIn K mainGlobals n = some (some (.ref a))) (l : K.lookup a = some ⟨.type "tuple", od, .seq #[.int i t, .int j u] m, sl⟩) : ConstD K mg n (eP .int .int (i, j)) :=
  ⟨.ref a, .ref a, PySem.W.mg_of X G e, rfl, fun H => .tup (.inr ⟨_, #[.int i t, .int j u], m, l, rfl, rfl, by show 2 ≤ sizeLine; rw [sizeLine_eq]; decide, .cons (show RelV (.int i) (.int i t) from ⟨t, rfl⟩) (.cons (show RelV (.int j) (.int j u) from ⟨u, rfl⟩) .nil)⟩) (.cons (.int i) (.cons (.int j) .nil))⟩
theorem kit_tyF {K : PySem.W.Frag} {C : Addr} {T : String} (h1 : PySem.W.kitMeta T = true) (h3 : PySem.W.subIn K (.ref C) (.type T) = some false) : PySem.W.kitOne K (.ref C) (.type T) = some false := by
  show (if (Value.ref C == Value.type T) = true then some true else if PySem.W.kitMeta T = true then PySem.W.subIn K (.ref C) (.type T) else none) = some false
  rw [show (Value.ref C == Value.type T) = false from rfl, if_pos h1, h3]
  rfl
def Mood (c : Nat) : Prop := c = 20 ∨ c = 21 ∨ c = 22
theorem found_in {o : Option Int} {n : Nat} (h : ∀ i, o = some i → 0 ≤ i ∧ i < n) (hn : o.isNone = false) : inR n (o.getD default) := by
  cases o with
  | none => exact Bool.noConfusion hn
  | some i =>
    have := h i rfl
    exact ⟨by show -(n : Int) ≤ i; omega, this.2⟩
theorem cut_to {α : Type} (xs : List α) {q : Int} (h0 : 0 ≤ q) (h : q ≤ xs.length) : cutG xs none (some q) = xs.take q.toNat := by
  obtain ⟨n, rfl⟩ : ∃ n : Nat, q = (n : Int) := ⟨q.toNat, by omega⟩
  unfold cutG
  have e1 : HT.sIx xs.length xs.length (some (n : Int)) = n := (HT.sIx_nat xs.length xs.length n).trans (by omega)
  have e2 : HT.sIx xs.length 0 none = 0 := rfl
  rw [e1, e2]
  simp
theorem cut_from {α : Type} (xs : List α) {q : Int} (h0 : 0 ≤ q) (h : q ≤ xs.length) : cutG xs (some q) none = xs.drop q.toNat := by
  obtain ⟨n, rfl⟩ : ∃ n : Nat, q = (n : Int) := ⟨q.toNat, by omega⟩
  unfold cutG
  have e1 : HT.sIx xs.length 0 (some (n : Int)) = n := (HT.sIx_nat xs.length 0 n).trans (by omega)
  have e2 : HT.sIx xs.length xs.length none = xs.length := rfl
  rw [e1, e2]
  exact List.take_of_length_le (by rw [List.length_drop]; exact Nat.le_refl _)
theorem gx_map {α β : Type} [Inhabited α] [Inhabited β] (f : α → β) (xs : List α) {i : Int} (h : inR xs.length i) : gx (xs.map f) i = f (gx xs i) := by
  have h1 : atI (xs.map f) i = some (f (gx xs i)) := at_map (at_gx h)
  have h2 := at_gx (xs := xs.map f) (i := i) (by rw [List.length_map]; exact h)
  rw [h1] at h2
  exact (Option.some.inj h2).symm
theorem gx_natI {α : Type} [Inhabited α] (xs : List α) {q : Int} (h0 : 0 ≤ q) (h : q < xs.length) : xs[q.toNat]? = some (gx xs q) := by
  have h1 := at_gx (xs := xs) (i := q) ⟨by omega, h⟩
  obtain ⟨n, rfl⟩ : ∃ n : Nat, q = (n : Int) := ⟨q.toNat, by omega⟩
  rw [atI_nat (v := xs[n]'(by omega)) (by simp)] at h1
  rw [← h1]
  simp
theorem len_if {α : Type} {c : Bool} {a b : List α} {n : Nat} (h1 : a.length = n) (h2 : b.length = n) : (bif c then a else b).length = n := by cases c; exact h2; exact h1
/-- two loops that keep step -/
theorem forG_same {σ α ρ : Type} {f g : σ → α → Go σ ρ} (I : σ → Prop) : ∀ (xs : List α) (_ : ∀ a ∈ xs, ∀ s, I s → ∃ s', f s a = .nx s' ∧ g s a = .nx s' ∧ I s') {s : σ} (_ : I s), forG f xs s = forG g xs s
  | [], _, _, _ => rfl
  | x :: xs, h, s, hs => by
    obtain ⟨s', h1, h2, h3⟩ := h x List.mem_cons_self s hs
    unfold forG
    rw [h1, h2]
    exact forG_same I xs (fun a ha => h a (List.mem_cons_of_mem _ ha)) h3
theorem deCr {X : Cx} {E : List Sl} {e : Expr} {x y : PyData} (h : DE X E e x) (q : x = y) : DE X E e y := q ▸ h
theorem Mood.all {P : Nat → Prop} (h0 : P 20) (h1 : P 21) (h2 : P 22) : ∀ c, Mood c → P c := fun c hc => by
  rcases hc with rfl | rfl | rfl
  · exact h0
  · exact h1
  · exact h2
end D

end

section
set_option Elab.async false
set_option linter.all false
set_option autoImplicit false
set_option maxRecDepth 100000
set_option maxHeartbeats 2000000
namespace D
open PySem L2 PySem.Spec PyProof.Rows
section
variable {X : Cx} {W : WX} {E E' : List Sl} {a b c e : Expr} {pos : Pos} {α β : Type} {f : α → PyData} {g : β → PyData} {xs : List α} {ys : List β} {v : List α × List β} {y : β} {n : Int} {P : Out → Prop} {o : Option α}
theorem de_isNone (h : DE X E a (eO f o)) (hn : o.isNone = true) : DE X E a .none := by
  cases o with
  | none => exact h
  | some x => exact Bool.noConfusion hn
/-- [new list, new list] -/
theorem dn_hl (ha : DN X E a (oL f xs)) (hb : DN X E b (oL g ys)) (hs1 : starEach [a, b] X.env = (false, eval a X.env) :: starEach [b] X.env := by rfl) (hs2 : starEach [b] X.env = (false, eval b X.env) :: starEach [] X.env := by rfl) : DN X E (.List [a, b] pos) (oH (oL f) (oL g) (xs, ys)) :=
  dn_lstO (dna_cons ha (dna_cons hb dna_nil hs2) hs1)
/-- x[1][b] = e -/
theorem ds_setH1 {nx : Str} {np sp sp2 ip : Pos} {j : Nat} (i : Nat) (hv : ∀ p, PE X (.Name nx p) (tVar i)) (he : DE X E e (g y)) (hi : DE X E b (.int n)) (hg : E[i]? = some (.o (oH (oL f) (oL g) v))) (hr : inR v.2.length n) (hE : E.set i (.o (oH (oL f) (oL g) (v.1, sx v.2 n y))) = E')
    (ha : ∀ w, assign (.Subscript (.Subscript (.Name nx np) (.Constant (.int 1) j ip) sp2) b sp) X.env w = (do
      let ov ← holding [w] (eval (.Subscript (.Name nx np) (.Constant (.int 1) j ip) sp2) X.env)
      let iv ← holding [w, ov] (eval b X.env)
      standAt sp
      holding [w, ov, iv] (setItem ov iv w)
      release [w, ov, iv] []) := by intro _; rfl)
    (hs : swapsWithSole [.Subscript (.Subscript (.Name nx np) (.Constant (.int 1) j ip) sp2) b sp] e pos.line X.env = pure false := by rfl) (hw : swappedStores [.Subscript (.Subscript (.Name nx np) (.Constant (.int 1) j ip) sp2) b sp] e X.env = pure none := by rfl) (h1 : (assignEach [.Subscript (.Subscript (.Name nx np) (.Constant (.int 1) j ip) sp2) b sp] X.env).map (·.2) = [assign (.Subscript (.Subscript (.Name nx np) (.Constant (.int 1) j ip) sp2) b sp) X.env] := by rfl) :
    DS X W (.Assign [.Subscript (.Subscript (.Name nx np) (.Constant (.int 1) j ip) sp2) b sp] e pos) E (th (· = E') P) :=
  ds_setixP (p := [1]) (j := ixD v.2.length n) (dp_ixL (p := []) (dp_v i (hv _) hg) de_int hg rfl rfl) he.toN hi hg rfl (by rw [List.length_map, List.length_map]; exact ixN_ok hr) (by
    rw [← hE]
    show E.set i (.o (.l [oL f v.1, .l ((((v.2.map g).map .d)).set (ixD v.2.length n) (.d (g y)))])) = E.set i (.o (.l [oL f v.1, .l (((v.2.set (ixD v.2.length n) y).map g).map .d)]))
    rw [List.map_set, List.map_set]) ha hs hw h1
end
theorem eqE_OP {α β : Type} [DecidableEq α] [DecidableEq β] {m n : Nat} {f : α → PyData} {g : β → PyData} (hf : EqE m f) (hg : EqE n g) : EqE (max m n + 1) (eO (eP f g)) := by
  have h := eqE_P hf hg
  refine ⟨fun a => ?_, fun a => ?_, fun a => ?_, fun a b => ?_⟩
  · cases a with
    | none => rfl
    | some x => exact h.nd x
  · cases a with
    | none => rfl
    | some x => exact h.lay x
  · cases a with
    | none => exact Nat.zero_le _
    | some x => exact h.dep x
  · cases a with
    | none => cases b <;> rfl
    | some x =>
      cases b with
      | none => rfl
      | some y =>
        show PyData.eqv (eP f g x) (eP f g y) = _
        rw [h.eq x y]
        by_cases q : x = y
        · subst q; simp
        · rw [decide_eq_false q, decide_eq_false (fun z => q (Option.some.inj z))]
theorem eqE_H {α β : Type} [DecidableEq α] [DecidableEq β] {m n : Nat} {f : α → PyData} {g : β → PyData} (hf : EqE m f) (hg : EqE n g) : EqE (max m n + 1) (eH f g) := by
  refine ⟨fun p => ?_, fun p => ?_, fun p => ?_, fun p q => ?_⟩
  · show (noDict (f p.1) && (noDict (g p.2) && true)) = true
    rw [hf.nd, hg.nd]; rfl
  · show ((f p.1).canLay0 && ((g p.2).canLay0 && true)) = true
    rw [hf.lay, hg.lay]; rfl
  · have h1 := hf.dep p.1
    have h2 := hg.dep p.2
    show max (f p.1).depth (max (g p.2).depth 0) + 1 ≤ _
    omega
  · show (PyData.eqv (f p.1) (f q.1) && (PyData.eqv (g p.2) (g q.2) && true)) = decide (p = q)
    rw [hf.eq, hg.eq, Bool.and_true]
    obtain ⟨a, b⟩ := p
    obtain ⟨c, d⟩ := q
    rw [← Bool.decide_and, decide_eq_decide]
    simp
theorem enumL_len {α : Type} (xs : List α) : (enumL xs).length = xs.length := by
  unfold enumL
  rw [List.length_zip, rng_len, Nat.min_self]
theorem enumL_mem {α : Type} {xs : List α} {p : Int × α} (h : p ∈ enumL xs) : 0 ≤ p.1 ∧ p.1 < xs.length := by
  unfold enumL at h
  have h1 := (List.of_mem_zip (show (p.1, p.2) ∈ (rng 0 xs.length).zip xs from h)).1
  have := rng_mem h1
  omega
theorem nodup_len : ∀ (n : Nat) (l : List Int), l.Nodup → (∀ x ∈ l, 0 ≤ x ∧ x < (n : Int)) → l.length ≤ n
  | 0, l, _, h => by
    cases l with
    | nil => exact Nat.zero_le _
    | cons x l => have := h x List.mem_cons_self; omega
  | n + 1, l, hn, h => by
    by_cases q : (n : Int) ∈ l
    · have h1 := nodup_len n (l.erase (n : Int)) (hn.erase _) (fun x hx => by
        have h2 := h x (List.mem_of_mem_erase hx)
        have h3 : x ≠ (n : Int) := fun z => by
          subst z
          exact (List.Nodup.not_mem_erase hn) hx
        omega)
      have h2 := List.length_erase_of_mem q
      have h3 : 0 < l.length := List.length_pos_of_mem q
      omega
    · have h1 := nodup_len n l hn (fun x hx => by
        have h2 := h x hx
        have h3 : x ≠ (n : Int) := fun z => by subst z; exact q hx
        omega)
      omega
theorem mul4 (a b c d : Int) : a * b * (c * d) = (a * c) * (b * d) := by
  rw [Int.mul_assoc a b, ← Int.mul_assoc b c d, Int.mul_comm b c, Int.mul_assoc c b d, ← Int.mul_assoc a c]
end D

end

section
set_option Elab.async false
set_option linter.all false
set_option autoImplicit false
set_option maxRecDepth 100000
set_option maxHeartbeats 2000000
namespace D
/-! ### least sums by rounds -/
structure Ed where
  u : Int
  v : Int
  w : Int
abbrev Ht := Int → Option Int
def updH (H : Ht) (v : Int) (x : Int) : Ht := fun z => if z = v then some x else H z
def relax (H : Ht) (e : Ed) : Ht := match H e.u with
  | none => H
  | some x => match H e.v with
    | none => updH H e.v (x + e.w)
    | some y => if x + e.w < y then updH H e.v (x + e.w) else H
def round (E : List Ed) (H : Ht) : Ht := E.foldl relax H
def rounds (E : List Ed) : Nat → Ht → Ht
  | 0, H => H
  | n + 1, H => round E (rounds E n H)
def H0 (s : Int) : Ht := fun z => if z = s then some 0 else none
/-- at most x at v -/
def Le1 (H : Ht) (v x : Int) : Prop := ∃ y, H v = some y ∧ y ≤ x
theorem Le1.mono {H : Ht} {v x y : Int} (h : Le1 H v x) (k : x ≤ y) : Le1 H v y := by
  obtain ⟨z, h1, h2⟩ := h
  exact ⟨z, h1, by omega⟩
theorem relax_down {H : Ht} {e : Ed} {v x : Int} (h : Le1 H v x) : Le1 (relax H e) v x := by
  obtain ⟨y, h1, h2⟩ := h
  unfold relax
  cases q : H e.u with
  | none => exact ⟨y, h1, h2⟩
  | some a =>
    cases q2 : H e.v with
    | none =>
      refine ⟨y, ?_, h2⟩
      show (if v = e.v then _ else H v) = some y
      rw [if_neg (fun z => by rw [z, q2] at h1; cases h1)]
      exact h1
    | some c =>
      by_cases k : a + e.w < c
      · show Le1 (if a + e.w < c then updH H e.v (a + e.w) else H) v x
        rw [if_pos k]
        by_cases z : v = e.v
        · refine ⟨a + e.w, by show (if v = e.v then _ else _) = _; rw [if_pos z], ?_⟩
          rw [z, q2] at h1
          cases h1
          omega
        · exact ⟨y, by show (if v = e.v then _ else H v) = _; rw [if_neg z]; exact h1, h2⟩
      · show Le1 (if a + e.w < c then updH H e.v (a + e.w) else H) v x
        rw [if_neg k]
        exact ⟨y, h1, h2⟩
theorem relax_at {H : Ht} {e : Ed} {x : Int} (h : Le1 H e.u x) : Le1 (relax H e) e.v (x + e.w) := by
  obtain ⟨a, h1, h2⟩ := h
  unfold relax
  rw [h1]
  cases q2 : H e.v with
  | none => exact ⟨a + e.w, by show (if e.v = e.v then _ else _) = _; rw [if_pos rfl], by omega⟩
  | some c =>
    show Le1 (if a + e.w < c then updH H e.v (a + e.w) else H) e.v (x + e.w)
    by_cases k : a + e.w < c
    · rw [if_pos k]
      exact ⟨a + e.w, by show (if e.v = e.v then _ else _) = _; rw [if_pos rfl], by omega⟩
    · rw [if_neg k]
      exact ⟨c, q2, by omega⟩
theorem fold_down : ∀ (E : List Ed) {H : Ht} {v x : Int}, Le1 H v x → Le1 (E.foldl relax H) v x
  | [], _, _, _, h => h
  | e :: E, _, _, _, h => fold_down E (relax_down h)
theorem fold_at : ∀ (E : List Ed) {H : Ht} {e : Ed} {x : Int}, e ∈ E → Le1 H e.u x → Le1 (E.foldl relax H) e.v (x + e.w)
  | [], _, _, _, he, _ => by cases he
  | d :: E, H, e, x, he, h => by
    rcases List.mem_cons.mp he with z | z
    · subst z; exact fold_down E (relax_at h)
    · exact fold_at E z (relax_down h)
/-- ways from s, the places latest first -/
inductive SW (E : List Ed) (s : Int) : List Int → Int → Prop
  | nil : SW E s [s] 0
  | cons {e : Ed} {p : List Int} {x : Int} : e ∈ E → SW E s (e.u :: p) x → SW E s (e.v :: e.u :: p) (x + e.w)
/-- what stands was come to -/
def Snd (E : List Ed) (s : Int) (H : Ht) : Prop := ∀ v x, H v = some x → ∃ p, SW E s (v :: p) x
theorem relax_snd {E : List Ed} {s : Int} {H : Ht} {e : Ed} (he : e ∈ E) (h : Snd E s H) : Snd E s (relax H e) := by
  intro v x hx
  unfold relax at hx
  cases q : H e.u with
  | none => rw [q] at hx; exact h v x hx
  | some a =>
    obtain ⟨p, hp⟩ := h _ _ q
    have key : updH H e.v (a + e.w) v = some x → ∃ p, SW E s (v :: p) x := by
      intro hu
      unfold updH at hu
      by_cases z : v = e.v
      · rw [if_pos z] at hu
        cases hu
        exact ⟨e.u :: p, z ▸ .cons he hp⟩
      · rw [if_neg z] at hu; exact h v x hu
    rw [q] at hx
    cases q2 : H e.v with
    | none => rw [q2] at hx; exact key hx
    | some c =>
      rw [q2] at hx
      by_cases k : a + e.w < c
      · have hx' : (if a + e.w < c then updH H e.v (a + e.w) else H) v = some x := hx
        rw [if_pos k] at hx'; exact key hx'
      · have hx' : (if a + e.w < c then updH H e.v (a + e.w) else H) v = some x := hx
        rw [if_neg k] at hx'; exact h v x hx'
theorem fold_snd {E : List Ed} {s : Int} : ∀ (D : List Ed) {H : Ht}, (∀ e ∈ D, e ∈ E) → Snd E s H → Snd E s (D.foldl relax H)
  | [], _, _, h => h
  | d :: D, _, hd, h => fold_snd D (fun e he => hd e (List.mem_cons_of_mem _ he)) (relax_snd (hd d List.mem_cons_self) h)
theorem rounds_snd {E : List Ed} {s : Int} : ∀ n, Snd E s (rounds E n (H0 s))
  | 0 => fun v x hx => by
    have hx' : (if v = s then some 0 else none) = some x := hx
    by_cases z : v = s
    · rw [if_pos z] at hx'; cases hx'; exact ⟨[], z ▸ .nil⟩
    · rw [if_neg z] at hx'; cases hx'
  | n + 1 => fold_snd E (fun e he => he) (rounds_snd n)
theorem rounds_start {E : List Ed} {s : Int} : ∀ n, Le1 (rounds E n (H0 s)) s 0
  | 0 => ⟨0, by show (if s = s then some 0 else none) = _; rw [if_pos rfl], Int.le_refl _⟩
  | n + 1 => fold_down E (rounds_start n)
theorem rounds_le {E : List Ed} {s : Int} : ∀ (n : Nat) {l : List Int} {x : Int}, SW E s l x → l.length ≤ n + 1 → ∀ v p, l = v :: p → Le1 (rounds E n (H0 s)) v x
  | n, _, _, .nil, _, v, p, e => by cases e; exact rounds_start n
  | 0, _, _, .cons he h, hl, v, p, e => by
    have : _ + 1 + 1 ≤ 1 := hl
    omega
  | n + 1, _, _, .cons (e := d) he h, hl, v, p, e => by
    cases e
    exact fold_at E he (rounds_le n h (Nat.le_of_succ_le_succ hl) d.u _ rfl)
theorem SW.nn {E : List Ed} {s : Int} (hw : ∀ e ∈ E, 0 ≤ e.w) {l : List Int} {x : Int} (h : SW E s l x) : 0 ≤ x := by
  induction h with
  | nil => exact Int.le_refl _
  | cons he _ ih => have := hw _ he; omega
/-- the way up to a place on it -/
theorem SW.upto {E : List Ed} {s : Int} (hw : ∀ e ∈ E, 0 ≤ e.w) {l : List Int} {x : Int} (h : SW E s l x) : ∀ v, v ∈ l → l.Nodup → ∃ r y, SW E s (v :: r) y ∧ y ≤ x ∧ (v :: r).Nodup := by
  induction h with
  | nil => intro v hv hn; rw [List.mem_singleton.mp hv]; exact ⟨[], 0, .nil, Int.le_refl _, by simp⟩
  | @cons e p x he h ih =>
    intro v hv hn
    rcases List.mem_cons.mp hv with z | z
    · rw [z]; exact ⟨_, _, .cons he h, Int.le_refl _, hn⟩
    · obtain ⟨r, y, h1, h2, h3⟩ := ih v z (List.nodup_cons.mp hn).2
      have := hw _ he
      exact ⟨r, y, h1, by omega, h3⟩
theorem SW.simple {E : List Ed} {s : Int} (hw : ∀ e ∈ E, 0 ≤ e.w) {l : List Int} {x : Int} (h : SW E s l x) : ∀ v p, l = v :: p → ∃ q y, SW E s (v :: q) y ∧ y ≤ x ∧ (v :: q).Nodup := by
  induction h with
  | nil => intro v p e; cases e; exact ⟨[], 0, .nil, Int.le_refl _, by simp⟩
  | @cons e p x he h ih =>
    intro v p' e'
    cases e'
    obtain ⟨q, y, h1, h2, h3⟩ := ih _ _ rfl
    have := hw _ he
    by_cases z : e.v ∈ e.u :: q
    · obtain ⟨r, y2, k1, k2, k3⟩ := h1.upto hw _ z h3
      exact ⟨r, y2, k1, by omega, k3⟩
    · exact ⟨e.u :: q, y + e.w, .cons he h1, by omega, List.nodup_cons.mpr ⟨z, h3⟩⟩
theorem SW.rg {E : List Ed} {s m : Int} (hs : 0 ≤ s ∧ s < m) (hE : ∀ e ∈ E, 0 ≤ e.v ∧ e.v < m) {l : List Int} {x : Int} (h : SW E s l x) : ∀ v ∈ l, 0 ≤ v ∧ v < m := by
  induction h with
  | nil => intro v hv; rw [List.mem_singleton.mp hv]; exact hs
  | cons he _ ih =>
    intro v hv
    rcases List.mem_cons.mp hv with z | z
    · rw [z]; exact hE _ he
    · exact ih v z
section
variable {E : List Ed} {s : Int} {m : Nat}
structure Net (E : List Ed) (s : Int) (m : Nat) : Prop where
  pos : 1 ≤ m
  start : 0 ≤ s ∧ s < (m : Int)
  ends : ∀ e ∈ E, 0 ≤ e.v ∧ e.v < (m : Int)
  nn : ∀ e ∈ E, 0 ≤ e.w
def last (E : List Ed) (s : Int) (m : Nat) : Ht := rounds E (m - 1) (H0 s)
theorem last_le (N : Net E s m) {l : List Int} {x v : Int} {p : List Int} (h : SW E s l x) (e : l = v :: p) : Le1 (last E s m) v x := by
  obtain ⟨q, y, h1, h2, h3⟩ := h.simple N.nn v p e
  have hl := nodup_len m (v :: q) h3 (h1.rg N.start N.ends)
  exact (rounds_le (m - 1) h1 (by have := N.pos; omega) v q rfl).mono h2
/-- no road leads from a place with a height to one whose height is more -/
theorem last_feas (N : Net E s m) {e : Ed} (he : e ∈ E) {x : Int} (h : last E s m e.u = some x) : Le1 (last E s m) e.v (x + e.w) := by
  obtain ⟨p, hp⟩ := rounds_snd (E := E) (s := s) (m - 1) _ _ h
  exact last_le N (.cons he hp) rfl
theorem last_start (N : Net E s m) : last E s m s = some 0 := by
  obtain ⟨y, h1, h2⟩ := rounds_start (E := E) (s := s) (m - 1)
  obtain ⟨p, hp⟩ := rounds_snd (E := E) (s := s) (m - 1) _ _ h1
  have := hp.nn N.nn
  have : y = 0 := by omega
  subst this
  exact h1
/-- what is led to by roads whose times just make up heights -/
inductive TR (E : List Ed) (s : Int) (H : Ht) : Int → Prop
  | nil : TR E s H s
  | cons {e : Ed} {a : Int} : e ∈ E → TR E s H e.u → H e.u = some a → H e.v = some (a + e.w) → TR E s H e.v
theorem last_tight (N : Net E s m) {l : List Int} {x : Int} (h : SW E s l x) : ∀ v p, l = v :: p → last E s m v = some x → TR E s (last E s m) v := by
  induction h with
  | nil => intro v p e _; cases e; exact .nil
  | @cons e p x he h ih =>
    intro v p' e' hv
    cases e'
    obtain ⟨z, h1, h2⟩ := last_le N h rfl
    obtain ⟨y, k1, k2⟩ := last_feas N he h1
    rw [hv] at k1
    have k3 : x + e.w = y := Option.some.inj k1
    have hz : z = x := by omega
    subst hz
    exact .cons he (ih _ _ rfl h1) h1 hv
theorem last_TR (N : Net E s m) {v x : Int} (h : last E s m v = some x) : TR E s (last E s m) v := by
  obtain ⟨p, hp⟩ := rounds_snd (E := E) (s := s) (m - 1) _ _ h
  exact last_tight N hp v p rfl h
end
end D

end

section
set_option Elab.async false
set_option linter.all false
set_option autoImplicit false
set_option maxRecDepth 100000
set_option maxHeartbeats 2000000
namespace D
open PySem L2 PySem.Spec PyProof.Rows
/-! ### sorted -/
/-- sorted(xs), what the items stand for told beside -/
def rSortG {δ : Type} (K : PySem.W.Frag) (enc : δ → PyData) (rel : Hp → V → δ → Prop) : List V → Hp → VK → Prop := fun vs H Q => ∃ (a : Addr) (ps : List (V × δ)), vs = [V.ref a] ∧ SqL K H a (ps.map (·.1)) ∧ (∀ p ∈ ps, rel H p.1 p.2) ∧
  ∀ q, H q = none → Q (.ref q) (upd H q (.lst ((ps.mergeSort (fun p q => PySem.W.dataLe false enc p.2 q.2)).map (·.1))))
theorem paired_each {δ : Type} : ∀ {ps : List (V × δ)} {its : List Value}, Vals (ps.map (·.1)) its → PySem.W.EachIs (fun v (p : V × δ) => RelV p.1 v) its ps
  | [], _, h => by cases h; exact .nil
  | p :: ps, _, h => by
    cases h with
    | cons h1 h2 => exact .cons h1 (paired_each h2)
theorem each_paired {δ : Type} : ∀ {ps : List (V × δ)} {its : List Value}, PySem.W.EachIs (fun v (p : V × δ) => RelV p.1 v) its ps → Vals (ps.map (·.1)) its
  | [], _, h => by cases h; exact .nil
  | p :: ps, _, h => by
    cases h with
    | cons h1 h2 => exact .cons h1 (each_paired h2)
theorem each_imp {α β : Type} {R S : α → β → Prop} : ∀ {as : List α} {bs : List β}, PySem.W.EachIs R as bs → (∀ a b, b ∈ bs → R a b → S a b) → PySem.W.EachIs S as bs
  | _, _, .nil, _ => .nil
  | _, _, .cons h t, k => .cons (k _ _ List.mem_cons_self h) (each_imp t fun a b hb => k a b (List.mem_cons_of_mem _ hb))
theorem cr_sortG {X : Cx} {δ : Type} {enc : δ → PyData} {rel : Hp → V → δ → Prop} (hu : X.A.units + 64 < cLine) (hd : ∀ d, (enc d).depth ≤ 60) (hal : ∀ b b', PySem.W.alike (enc b) (enc b') = true) (ho : ∀ b, enc b ≠ .none ∧ ∀ xs, enc b ≠ .tuple xs)
    (hrd : ∀ pins s σ H v d u, Inv X pins σ H s → rel H v d → RelV v u → ∃ as, Reads s.heap u (enc d) as) : CallR X (.builtin "sorted") (rSortG X.K enc rel) := by
  intro pins s σ H vs us Q I r h
  obtain ⟨a, ps, rfl, hs, hp, q⟩ := h
  obtain ⟨its, rv, hl, hz⟩ := I.list hs
  rw [Vals.ref1 r]
  have e := paired_each rv
  have hlen : ps.length ≤ sizeLine := by rw [List.length_map] at hz; exact hz
  refine PySem.W.sorted_data (enc := fun p : V × δ => enc p.2) hl.isList e (each_imp e fun v p hm hr => hrd pins s σ H p.1 p.2 v I (hp p hm) hr) (PySem.W.AllAlike.of fun b b' => hal _ _) (PySem.W.Sortable.others fun b => ho _) hlen (fun b _ => by have := hd b.2; omega) fun out ho eo => ?_
  obtain ⟨ep, he'⟩ := PyProof.Rows.sortedAll_at s.heap its out.toArray
  have ev : PySem.W.dataLe false (fun p : V × δ => enc p.2) = (fun p q => PySem.W.dataLe false enc p.2 q.2) := rfl
  rw [ev] at eo
  exact ⟨.ref _, upd H (s.heap.objs.size + 1) (.lst _), I.laid (t' := s.toks) (fun _ _ => PyProof.Rows.sortedAll_old) (Nat.le_succ _) ⟨by rw [List.length_map, List.length_mergeSort]; exact hlen, out, ep, each_paired eo, he'⟩, rfl, q _ (I.hok.fresh (Nat.le_succ _))⟩
def sortI (ns : List Int) : List Int := ns.mergeSort (fun a b => decide (a ≤ b))
def sortL (xss : List (List Int)) : List (List Int) := xss.mergeSort (fun a b => decide (a ≤ b))
theorem le_ints : PySem.W.dataLe false (fun n : Int => PyData.int n) = fun a b => decide (a ≤ b) := PySem.W.dataLe_int (fun n : Int => n)
theorem le_rows : PySem.W.dataLe false (fun x : List Int => PyData.list (x.map .int)) = fun a b => decide (a ≤ b) := PySem.W.dataLe_rows (fun x : List Int => x)
theorem cr_sortI {X : Cx} (hu : X.A.units + 64 < cLine) : CallR X (.builtin "sorted") (rSortG X.K (fun n : Int => PyData.int n) (fun _ v n => v = V.int n)) :=
  cr_sortG hu (fun _ => Nat.zero_le _) (fun _ _ => rfl) (fun b => ⟨fun h => PyData.noConfusion h, fun xs h => PyData.noConfusion h⟩) fun pins s σ H v d u I hr hv => by
    subst hr
    obtain ⟨t, rfl⟩ := hv
    exact ⟨[], .int d t⟩
theorem reads_ints {h : Heap} : ∀ {ns : List Int} {us : List Value}, Vals (ns.map V.int) us → ReadsAll h us (ns.map PyData.int) []
  | [], _, r => by cases r; exact .nil
  | n :: ns, _, r => by
    cases r with
    | cons h1 h2 =>
      obtain ⟨t, rfl⟩ := h1
      exact .cons (as := []) (bs := []) (.int n t) (reads_ints h2)
theorem cr_sortL {X : Cx} (hu : X.A.units + 64 < cLine) : CallR X (.builtin "sorted") (rSortG X.K (fun x : List Int => PyData.list (x.map .int)) (fun H v x => ∃ t, v = V.ref t ∧ SqL X.K H t (x.map V.int))) :=
  cr_sortG hu (fun d => by simp only [PyData.depth, PySem.W.depth_ints]; decide) (fun b b' => by simp only [PySem.W.alike]; exact PySem.W.alike_ints b b') (fun b => ⟨fun h => PyData.noConfusion h, fun xs h => PyData.noConfusion h⟩) fun pins s σ H v d u I hr hv => by
    obtain ⟨t, rfl, hs⟩ := hr
    obtain ⟨its, rv, ⟨o, n, ho, hc, hd, hdat⟩, hz⟩ := I.list hs
    have e : u = Value.ref t := hv
    subst e
    exact ⟨[t], .list ho hc hdat (reads_ints rv)⟩
section
variable {X : Cx} {W : WX} {E E' : List Sl} {e a b : Expr} {pos : Pos} {t u : OT} {x : PyData} {P : Out → Prop} {rest : List Stmt}
theorem sort_fst {α δ : Type} (f : α → V × δ) (le : α → α → Bool) (le' : V × δ → V × δ → Bool) (h : ∀ a b, le a b = le' (f a) (f b)) (xs : List α) : ((xs.map f).mergeSort le').map (·.1) = (xs.mergeSort le).map (fun a => (f a).1) := by
  rw [← List.map_mergeSort (r := le) (s := le') (f := f) fun a _ b _ => h a b, List.map_map]
  rfl
/-- sorted(ints) -/
theorem dn_sortI {ns : List Int} {nm : Pos} (hu : X.A.units + 64 < cLine) (ha : DE X E a (eL PyData.int ns)) (hg : Gl X "sorted") (hm : X.mg "sorted" = none) (hs : starEach [a] X.env = (false, eval a X.env) :: starEach [] X.env := by rfl) : DN X E (.Call (.Name "sorted" nm) [a] [] pos) (oL PyData.int (sortI ns)) := by
  obtain ⟨ta, a1, a2⟩ := ha
  refine ⟨_, pe_callB (cr_sortI hu) hg hm (by decide +kernel) (pa_cons a1 pa_nil hs) (he := hs), fun M L H σ Q I k => a2 M L H σ _ I fun v H1 s1 r1 => ?_⟩
  cases r1 with
  | lst h1 h2 =>
    have ev := RA.ofInts h2
    subst ev
    refine ⟨_, ns.map (fun n => (V.int n, n)), rfl, ?_, fun p hp => ?_, fun q hq => ?_⟩
    · rw [List.map_map]; exact fz_sub.seq h1
    · obtain ⟨n, _, rfl⟩ := List.mem_map.mp hp; rfl
    · rw [sort_fst (fun n => (V.int n, n)) (fun a b => decide (a ≤ b)) _ (fun a b => by rw [le_ints])]
      exact own_new I s1 (RA.ints (ns := sortI ns)) hq k
/-! an own list of own lists, one by one -/
theorem own_ints {K : PySem.W.Frag} {Wn : List Addr} {H : Hp} : ∀ {ns : List Int} {vs : List V} {F : List Addr}, Owns K Wn H vs (ns.map (fun n => OT.d (.int n))) F → vs = ns.map V.int ∧ F = []
  | [], _, _, h => by cases h; exact ⟨rfl, rfl⟩
  | n :: ns, _, _, h => by
    cases h with
    | cons h1 h2 =>
      obtain ⟨rfl, rfl⟩ := own_ints h2
      cases h1 with
      | d r => cases r; exact ⟨rfl, rfl⟩
abbrev QL := V × List Int × List Addr
theorem owns_qs {K : PySem.W.Frag} {Wn : List Addr} {H : Hp} : ∀ {xss : List (List Int)} {vs : List V} {F : List Addr}, Owns K Wn H vs (xss.map (oL PyData.int)) F → ∃ qs : List QL, vs = qs.map (·.1) ∧ xss = qs.map (·.2.1) ∧ F = qs.flatMap (·.2.2) ∧ ∀ q ∈ qs, Own K Wn H q.1 (oL PyData.int q.2.1) q.2.2
  | [], _, _, h => by cases h; exact ⟨[], rfl, rfl, rfl, fun q hq => absurd hq List.not_mem_nil⟩
  | x :: xss, _, _, h => by
    cases h with
    | @cons v _ F1 vs _ G h1 h2 =>
      obtain ⟨qs, rfl, rfl, rfl, k⟩ := owns_qs h2
      exact ⟨(v, x, F1) :: qs, rfl, rfl, rfl, fun q hq => by
        rcases List.mem_cons.mp hq with z | z
        · rw [z]; exact h1
        · exact k q z⟩
theorem qs_owns {K : PySem.W.Frag} {Wn : List Addr} {H : Hp} : ∀ {qs : List QL}, (∀ q ∈ qs, Own K Wn H q.1 (oL PyData.int q.2.1) q.2.2) → Owns K Wn H (qs.map (·.1)) ((qs.map (·.2.1)).map (oL PyData.int)) (qs.flatMap (·.2.2))
  | [], _ => .nil
  | q :: qs, h => .cons (h q List.mem_cons_self) (qs_owns fun r hr => h r (List.mem_cons_of_mem _ hr))
theorem own_sql {K : PySem.W.Frag} {Wn : List Addr} {H : Hp} {v : V} {x : List Int} {F : List Addr} (h : Own K Wn H v (oL PyData.int x) F) : ∃ t, v = V.ref t ∧ SqL K H t (x.map V.int) := by
  unfold oL at h
  cases h with
  | @l p vs _ G hp hl ho =>
    rw [List.map_map] at ho
    obtain ⟨rfl, _⟩ := own_ints ho
    exact ⟨p, rfl, .of hl⟩
/-- return sorted(name), the name's own list of own lists -/
theorem ds_retSortL {k : Nat} {xss : List (List Int)} {nm cp : Pos} (hu : X.A.units + 64 < cLine) (ha : PE X a (tVar k)) (g : E[k]? = some (.o (oS (oL PyData.int) xss))) (hg : Gl X "sorted") (hm : X.mg "sorted" = none) (h : P (.rt (oS (oL PyData.int) (sortL xss)))) (hs : starEach [a] X.env = (false, eval a X.env) :: starEach [] X.env := by rfl) :
    DSs X W (.Return (some (.Call (.Name "sorted" nm) [a] [] cp)) pos :: rest) E P := by
  refine ⟨fun M L H σ D I k' => ⟨_, pss_cons (ps_ret (pe_callB (cr_sortL hu) hg hm (by decide +kernel) (pa_cons ha pa_nil hs) (he := hs))) pss_all, ?_⟩⟩
  obtain ⟨v, G, g1, g2, g3, g4⟩ := I.get g
  unfold oS at g2
  cases g2 with
  | @l p0 vs _ F hp0 hl ho =>
    obtain ⟨qs, rfl, rfl, rfl, hq⟩ := owns_qs ho
    refine ⟨_, g1, p0, qs.map (fun q => (q.1, q.2.1)), rfl, ?_, fun p hp => ?_, fun p hp => ?_⟩
    · rw [List.map_map]; exact .of hl
    · obtain ⟨q, hqm, rfl⟩ := List.mem_map.mp hp; exact own_sql (hq q hqm)
    · rw [sort_fst (fun q : QL => (q.1, q.2.1)) (fun a b => decide (a.2.1 ≤ b.2.1)) _ (fun a b => by rw [le_rows])]
      have es : sortL (qs.map (·.2.1)) = (qs.mergeSort (fun a b => decide (a.2.1 ≤ b.2.1))).map (·.2.1) := (List.map_mergeSort (r := fun a b : QL => decide (a.2.1 ≤ b.2.1)) (s := fun a b => decide (a ≤ b)) (f := fun q : QL => q.2.1) fun a _ b _ => rfl).symm
      rw [es] at h
      have hpm := List.mergeSort_perm qs (fun a b => decide (a.2.1 ≤ b.2.1))
      generalize qs.mergeSort (fun a b => decide (a.2.1 ≤ b.2.1)) = rs at *
      have hF := hpm.flatMap_right (fun q : QL => q.2.2)
      have sp : Same H (upd H p (.lst (rs.map (·.1)))) := same_new hp
      have sz : Same (fz (L ++ M) H) (fz ((p :: L) ++ M) (upd H p (.lst (rs.map (·.1))))) := fz_mono fun a o n q => ⟨fun z => by
        rcases List.mem_cons.mp z with z | z
        · rw [z, hp] at q; cases q
        · exact n z, sp a o q⟩
      have o1 : Owns X.K ((p :: L) ++ M) (upd H p (.lst (rs.map (·.1)))) (rs.map (·.1)) ((rs.map (·.2.1)).map (oL PyData.int)) (rs.flatMap (·.2.2)) := qs_owns fun q hqr => Own.mono sz _ _ _ (fun a ha => by
        obtain ⟨h1, ws, h2⟩ := Own.sub _ _ _ (hq q (hpm.mem_iff.mp hqr)) a ha
        exact ⟨List.mem_cons_of_mem _ h1, eq_same sp h2⟩) (hq q (hpm.mem_iff.mp hqr))
      have nG := (List.nodup_cons.mp g4).2
      have inL : ∀ a ∈ rs.flatMap (·.2.2), a ∈ L := fun a ha => g3 a (List.mem_cons_of_mem _ (hF.mem_iff.mp ha))
      refine k'.rt _ (.ref p) (p :: L) _ (p :: rs.flatMap (·.2.2)) h ⟨fun a o n q => sp a o q, fun a ha => ?_, fun a z => not_none_same sp z⟩ (fun a ha => ?_) (fun a ha => ?_) (List.nodup_cons.mpr ⟨fun z => I.dom p (List.mem_append_left _ (inL p z)) hp, hF.nodup_iff.mpr nG⟩) (.l List.mem_cons_self upd_same o1)
      · rcases List.mem_cons.mp ha with z | z
        · exact .inr (z ▸ hp)
        · exact .inl z
      · rcases List.mem_cons.mp ha with z | z
        · rw [z, upd_same]; exact fun z => by cases z
        · exact not_none_same sp (I.dom a z)
      · rcases List.mem_cons.mp ha with z | z
        · rw [z]; exact List.mem_cons_self
        · exact List.mem_cons_of_mem _ (inL a z)
/-- xs.append(a new thing), xs of the frame's own things -/
theorem ds_appendS {α : Type} {g : α → OT} {v : List α} {y : α} {nx : Str} {np ap cp : Pos} (i : Nat) (hv : ∀ p, PE X (.Name nx p) (tVar i)) (he : DN X E e (g y)) (hg : E[i]? = some (.o (oS g v))) (hl : v.length < sizeLine) (hE : E.set i (.o (oS g (v ++ [y]))) = E' := by rfl)
    (hbase : attributeBase (.Name nx np) "append" X.env (eval (.Name nx np) X.env) = eval (.Name nx np) X.env := by rfl)
    (hfew : ((backTo cp (starEach [e] X.env)).all (fun x => !x.1) && (backToKw cp (keywordEach [] X.env)).all (fun x => x.1.isSome) && decide ([e].length + ([] : List Keyword).length + (if ([] : List Keyword).isEmpty then 0 else 1) < 30)) = true := by rfl)
    (hline : (ap.endLine == cp.line) = true := by rfl) (hst : starEach [e] X.env = (false, eval e X.env) :: starEach [] X.env := by rfl) (hplain : (backTo cp (starEach [] X.env)).any (·.1) = false := by rfl)
    (hsw : swapsWith (.Call (.Attribute (.Name nx np) "append" ap) [e] [] cp) none pos.line X.env = pure false := by rfl) :
    DS X W (.Expr (.Call (.Attribute (.Name nx np) "append" ap) [e] [] cp) pos) E (th (· = E') P) :=
  ds_appendP (p := []) (dp_v i (hv _) hg) he hg rfl (by simpa using hl) (by
    rw [← hE]
    show E.set i (.o (.l (v.map g ++ [g y]))) = E.set i (.o (.l ((v ++ [y]).map g)))
    rw [List.map_append]
    rfl) hbase hfew hline hst hplain hsw
def headApp {α : Type} (xss : List (List α)) (z : α) : List (List α) := match xss with
  | [] => []
  | x :: xs => (x ++ [z]) :: xs
/-- xs[0].append(data) -/
theorem ds_appendH {β : Type} {g : β → PyData} {v : List (List β)} {y : β} {nx : Str} {np ap cp sp ip : Pos} {j : Nat} (i : Nat) (hv : ∀ p, PE X (.Name nx p) (tVar i)) (he : DE X E e (g y)) (hg : E[i]? = some (.o (oS (oL g) v))) (hn : v ≠ []) (hl : ∀ x ∈ v, x.length < sizeLine) (hE : E.set i (.o (oS (oL g) (headApp v y))) = E' := by rfl)
    (hbase : attributeBase (.Subscript (.Name nx np) (.Constant (.int 0) j ip) sp) "append" X.env (eval (.Subscript (.Name nx np) (.Constant (.int 0) j ip) sp) X.env) = eval (.Subscript (.Name nx np) (.Constant (.int 0) j ip) sp) X.env := by rfl)
    (hfew : ((backTo cp (starEach [e] X.env)).all (fun x => !x.1) && (backToKw cp (keywordEach [] X.env)).all (fun x => x.1.isSome) && decide ([e].length + ([] : List Keyword).length + (if ([] : List Keyword).isEmpty then 0 else 1) < 30)) = true := by rfl)
    (hline : (ap.endLine == cp.line) = true := by rfl) (hst : starEach [e] X.env = (false, eval e X.env) :: starEach [] X.env := by rfl) (hplain : (backTo cp (starEach [] X.env)).any (·.1) = false := by rfl)
    (hsw : swapsWith (.Call (.Attribute (.Subscript (.Name nx np) (.Constant (.int 0) j ip) sp) "append" ap) [e] [] cp) none pos.line X.env = pure false := by rfl) :
    DS X W (.Expr (.Call (.Attribute (.Subscript (.Name nx np) (.Constant (.int 0) j ip) sp) "append" ap) [e] [] cp) pos) E (th (· = E') P) := by
  cases v with
  | nil => exact absurd rfl hn
  | cons x v =>
    exact ds_appendP (p := [0]) (dp_ixL (p := []) (dp_v i (hv _) hg) de_int hg rfl (by unfold ixN; rw [if_pos (by decide), if_pos (by simp)]; try rfl)) he.toN hg rfl (by simpa using hl x List.mem_cons_self) (by
      rw [← hE]
      show E.set i (.o (.l (.l (((x.map g).map .d) ++ [.d (g y)]) :: v.map (oL g)))) = E.set i (.o (.l (.l (((x ++ [y]).map g).map .d) :: v.map (oL g))))
      rw [List.map_append, List.map_append]
      rfl) hbase hfew hline hst hplain hsw
theorem le_set_no : ∀ (E : List Sl) (i : Nat) (s : Sl), Le (E.set i s) (E.set i .no)
  | [], _, _ => .nil
  | x :: E, 0, s => .drop (Le.refl E)
  | x :: E, i + 1, s => .same (le_set_no E i s)
/-- xs.append(e), xs not looked at any more -/
theorem ds_appendZ {α : Type} {f : α → PyData} {xs : List α} {nx : Str} {np ap cp : Pos} (i : Nat) (hv : ∀ p, PE X (.Name nx p) (tVar i)) (he : DE X E e x) (hg : E[i]? = some (.o (oL f xs))) (hl : xs.length < sizeLine) (hE : E.set i .no = E') (hr : DSs X W rest E' P)
    (hbase : attributeBase (.Name nx np) "append" X.env (eval (.Name nx np) X.env) = eval (.Name nx np) X.env := by rfl)
    (hfew : ((backTo cp (starEach [e] X.env)).all (fun x => !x.1) && (backToKw cp (keywordEach [] X.env)).all (fun x => x.1.isSome) && decide ([e].length + ([] : List Keyword).length + (if ([] : List Keyword).isEmpty then 0 else 1) < 30)) = true := by rfl)
    (hline : (ap.endLine == cp.line) = true := by rfl) (hst : starEach [e] X.env = (false, eval e X.env) :: starEach [] X.env := by rfl) (hplain : (backTo cp (starEach [] X.env)).any (·.1) = false := by rfl)
    (hsw : swapsWith (.Call (.Attribute (.Name nx np) "append" ap) [e] [] cp) none pos.line X.env = pure false := by rfl) :
    DSs X W (.Expr (.Call (.Attribute (.Name nx np) "append" ap) [e] [] cp) pos :: rest) E P :=
  ds_then (E' := E.set i (.o (.l ((xs.map f).map .d ++ [.d x])))) (ds_appendP (p := []) (dp_v i (hv _) hg) he.toN hg rfl (by simpa using hl) rfl hbase hfew hline hst hplain hsw) (ds_le (hE ▸ le_set_no E i _) hr)
end
end D

end

section
set_option Elab.async false
set_option linter.all false
set_option autoImplicit false
set_option maxRecDepth 100000
set_option maxHeartbeats 2000000
namespace D
open PySem L2 PySem.Spec PyProof.Rows
/-! ### own things lent to a statement that does not change them -/
theorem Slots.lend {K : PySem.W.Frag} {W : List Addr} {H : Hp} {σ : L2.St} {E : List Sl} {F : List Addr} (h : Slots K W H σ E F) : F.Nodup → ∀ (i : Nat) (t : OT), E[i]? = some (.o t) → ∃ (v : V) (G : List Addr), σ[i]? = some (some v) ∧ Own K W H v t G ∧ G.Nodup ∧ (∀ a ∈ G, a ∈ F) ∧ ∀ W' : List Addr, (∀ a o, a ∉ W → H a = some o → a ∉ W') → (∀ a ∈ G, a ∉ W') → (∀ a ∈ F, a ∉ G → a ∈ W') →
    ∃ F', Slots K W' H σ (E.set i (.fx v t.dat)) F' ∧ F'.Nodup ∧ ∀ a ∈ F', a ∈ F ∧ a ∉ G := by
  induction h with
  | nil => intro _ i t e; simp at e
  | no hs ih =>
    intro nF i t e
    cases i with
    | zero => simp at e
    | succ i =>
      obtain ⟨v, G, q1, q2, q3, g1, g2⟩ := ih nF i t (by simpa using e)
      refine ⟨v, G, q1, q2, q3, g1, fun W' h1 h2 h3 => ?_⟩
      obtain ⟨F', k1, k2, k3⟩ := g2 W' h1 h2 h3
      exact ⟨F', .no k1, k2, k3⟩
  | raw hs ih =>
    intro nF i t e
    cases i with
    | zero => simp at e
    | succ i =>
      obtain ⟨v, G, q1, q2, q3, g1, g2⟩ := ih nF i t (by simpa using e)
      refine ⟨v, G, q1, q2, q3, g1, fun W' h1 h2 h3 => ?_⟩
      obtain ⟨F', k1, k2, k3⟩ := g2 W' h1 h2 h3
      exact ⟨F', .raw k1, k2, k3⟩
  | fx r hs ih =>
    intro nF i t e
    cases i with
    | zero => simp at e
    | succ i =>
      obtain ⟨v, G, q1, q2, q3, g1, g2⟩ := ih nF i t (by simpa using e)
      refine ⟨v, G, q1, q2, q3, g1, fun W' h1 h2 h3 => ?_⟩
      obtain ⟨F', k1, k2, k3⟩ := g2 W' h1 h2 h3
      exact ⟨F', .fx (R.same (fz_mono fun a o n q => ⟨h1 a o n q, q⟩) _ _ r) k1, k2, k3⟩
  | @o v1 t1 G1 σ1 E1 F1 ho hs ih =>
    intro nF i t e
    obtain ⟨n1, n2, n3⟩ := List.nodup_append.mp nF
    cases i with
    | zero =>
      cases Option.some.inj e
      refine ⟨v1, G1, rfl, ho, n1, fun a ha => List.mem_append_left _ ha, fun W' h1 h2 h3 => ⟨F1, .fx (Own.rd _ _ _ ho (fun a o n q => ⟨h1 a o n q, q⟩) fun a ha => ⟨h2 a ha, rfl⟩) (hs.mono (fz_mono fun a o n q => ⟨h1 a o n q, q⟩) fun a ha => ⟨h3 a (List.mem_append_right _ ha) fun z => n3 a z a ha rfl, rfl⟩), n2, fun a ha => ⟨List.mem_append_right _ ha, fun z => n3 a z a ha rfl⟩⟩⟩
    | succ i =>
      obtain ⟨v, G, q1, q2, q3, g1, g2⟩ := ih n2 i t (by simpa using e)
      refine ⟨v, G, q1, q2, q3, fun a ha => List.mem_append_right _ (g1 a ha), fun W' h1 h2 h3 => ?_⟩
      have d1 : ∀ a ∈ G1, a ∉ G := fun a ha z => n3 a ha a (g1 a z) rfl
      obtain ⟨F', k1, k2, k3⟩ := g2 W' h1 h2 fun a ha hn => h3 a (List.mem_append_right _ ha) hn
      have o1 := Own.mono (W := W) (W' := W') (fz_mono fun a o n q => ⟨h1 a o n q, q⟩) _ _ _ (fun a ha => ⟨h3 a (List.mem_append_left _ ha) (d1 a ha), rfl⟩) ho
      exact ⟨G1 ++ F', .o o1 k1, List.nodup_append.mpr ⟨n1, k2, fun a ha b hb e => n3 a ha b (k3 b hb).1 e⟩, fun a ha => (List.mem_append.mp ha).elim (fun q => ⟨List.mem_append_left _ q, d1 a q⟩) fun q => ⟨List.mem_append_right _ (k3 a q).1, (k3 a q).2⟩⟩
theorem Slots.getFx {K : PySem.W.Frag} {W : List Addr} {H : Hp} {σ : L2.St} {E : List Sl} {F : List Addr} (h : Slots K W H σ E F) : ∀ {i : Nat} {v : V} {x : PyData}, E[i]? = some (.fx v x) → σ[i]? = some (some v) ∧ R K (fz W H) v x := by
  induction h with
  | nil => intro i v x e; simp at e
  | no _ ih => intro i v x e; cases i with
    | zero => simp at e
    | succ i => exact ih (by simpa using e)
  | raw _ ih => intro i v x e; cases i with
    | zero => simp at e
    | succ i => exact ih (by simpa using e)
  | fx r _ ih => intro i v x e; cases i with
    | zero => cases Option.some.inj e; exact ⟨rfl, r⟩
    | succ i => exact ih (by simpa using e)
  | o _ _ ih => intro i v x e; cases i with
    | zero => simp at e
    | succ i => exact ih (by simpa using e)
theorem EnvR.getFx {K : PySem.W.Frag} {M L : List Addr} {H : Hp} {σ : L2.St} {E : List Sl} {i : Nat} {v : V} {x : PyData} (h : EnvR K M L H σ E) (e : E[i]? = some (.fx v x)) : σ[i]? = some (some v) ∧ R K (fz (L ++ M) H) v x := by
  obtain ⟨⟨F, hs, _⟩, _, _⟩ := h
  exact hs.getFx e
theorem de_fx {X : Cx} {E : List Sl} {e : Expr} {v : V} {x : PyData} (i : Nat) (h : PE X e (tVar i)) (g : E[i]? = some (.fx v x) := by rfl) : DE X E e x :=
  ⟨_, h, fun M L H σ Q I k => by
    obtain ⟨h1, h2⟩ := I.getFx g
    exact ⟨v, h1, k v H (Same.refl H) h2⟩⟩
theorem slots_nos {K : PySem.W.Frag} {W : List Addr} {H : Hp} : ∀ σ : L2.St, Slots K W H σ (List.replicate σ.length .no) []
  | [] => .nil
  | x :: σ => .no (slots_nos σ)
theorem slots_one {K : PySem.W.Frag} {W : List Addr} {H : Hp} {v : V} {t : OT} {G : List Addr} (ho : Own K W H v t G) : ∀ (σ : L2.St) (i : Nat), σ[i]? = some (some v) → Slots K W H σ ((List.replicate σ.length .no).set i (.o t)) (G ++ [])
  | [], i, h => by simp at h
  | x :: σ, 0, h => by
    have e : x = some v := by simpa using h
    subst e
    exact .o ho (slots_nos σ)
  | x :: σ, i + 1, h => .no (slots_one ho σ i (by simpa using h))
theorem ds_lend {X : Cx} {W : WX} {st : Stmt} {rest : List Stmt} {E E' : List Sl} {P : Out → Prop} (i : Nat) {t : OT} {x : PyData} (hx : t.dat = x) (g : E[i]? = some (.o t)) (h : ∀ v, DS X W st (E.set i (.fx v x)) (th (fun E2 => E2.length = E.length ∧ E2[i]? = some (.fx v x)) fun _ => False)) (hE : (List.replicate E.length Sl.no).set i (.o t) = E') (hr : DSs X W rest E' P) : DSs X W (st :: rest) E P := by
  subst hx
  refine ds_then (E' := E') ⟨fun M L H σ D I k => ?_⟩ hr
  obtain ⟨⟨F, hs, nF, hL⟩, dom, dj⟩ := I
  obtain ⟨v, G, hv, ho, nG, gF, g2⟩ := hs.lend nF i t g
  let L1 := L.filter fun a => decide (a ∉ G)
  have hL1 : ∀ a, a ∈ L1 ↔ a ∈ L ∧ a ∉ G := fun a => by simp [L1]
  obtain ⟨F', k1, k2, k3⟩ := g2 (L1 ++ M) (fun a o n _ z => n ((List.mem_append.mp z).elim (fun q => List.mem_append_left _ ((hL1 a).mp q).1) fun q => List.mem_append_right _ q))
    (fun a ha z => (List.mem_append.mp z).elim (fun q => ((hL1 a).mp q).2 ha) fun q => dj a (hL a (gF a ha)) q) (fun a ha n => List.mem_append_left _ ((hL1 a).mpr ⟨hL a ha, n⟩))
  have I1 : EnvR X.K M L1 H σ (E.set i (.fx v t.dat)) := ⟨⟨F', k1, k2, fun a ha => (hL1 a).mpr ⟨hL a (k3 a ha).1, (k3 a ha).2⟩⟩, fun a ha => dom a ((List.mem_append.mp ha).elim (fun q => List.mem_append_left _ ((hL1 a).mp q).1) fun q => List.mem_append_right _ q), fun a ha => dj a ((hL1 a).mp ha).1⟩
  refine (h v).run M L1 H σ D I1 ⟨fun E2 L2 H2 σ2 p s I2 => ?_, fun _ _ _ _ p => p.elim, fun _ _ _ _ p => p.elim, fun _ _ _ _ _ p => p.elim, fun _ _ _ _ _ p => p.elim, fun _ _ _ _ _ _ _ _ _ p => p.elim⟩
  obtain ⟨p1, p2⟩ := p
  have hv2 := (I2.getFx p2).1
  obtain ⟨⟨F2, hs2, _, _⟩, dom2, dj2⟩ := I2
  have hlen : σ2.length = E.length := by rw [hs2.length, p1]
  have inL1 : ∀ a, a ∉ L → a ∉ L1 := fun a n z => n ((hL1 a).mp z).1
  have gL : ∀ a ∈ G, a ∈ L := fun a ha => hL a (gF a ha)
  have gL1 : ∀ a ∈ G, a ∉ L1 := fun a ha z => ((hL1 a).mp z).2 ha
  have sz : Same (fz (L ++ M) H) (fz ((G ++ L2) ++ M) H2) := fz_mono fun a o n q => by
    have nL : a ∉ L := fun z => n (List.mem_append_left _ z)
    refine ⟨fun z => ?_, s.keep a o (inL1 a nL) q⟩
    rcases List.mem_append.mp z with z | z
    · rcases List.mem_append.mp z with z | z
      · exact nL (gL a z)
      · rcases s.new a z with y | y
        · exact inL1 a nL y
        · rw [y] at q; cases q
    · exact n (List.mem_append_right _ z)
  have o2 : Own X.K ((G ++ L2) ++ M) H2 v t G := Own.mono sz _ _ _ (fun a ha => by
    obtain ⟨_, ws, h2⟩ := Own.sub _ _ _ ho a ha
    exact ⟨List.mem_append_left _ (List.mem_append_left _ ha), by rw [s.keep a _ (gL1 a ha) h2, h2]⟩) ho
  refine k.nx E' (G ++ L2) H2 σ2 rfl ⟨fun a o n q => s.keep a o (inL1 a n) q, fun a ha => ?_, s.there⟩ ⟨⟨G ++ [], by rw [← hE, ← hlen]; exact slots_one o2 σ2 i hv2, by simpa using nG, fun a ha => List.mem_append_left _ (by simpa using ha)⟩, fun a ha => ?_, fun a ha => ?_⟩
  · rcases List.mem_append.mp ha with z | z
    · exact .inl (gL a z)
    · exact (s.new a z).imp (fun y => ((hL1 a).mp y).1) id
  · rcases List.mem_append.mp ha with z | z
    · rcases List.mem_append.mp z with z | z
      · exact s.there a (dom a (List.mem_append_left _ (gL a z)))
      · exact dom2 a (List.mem_append_left _ z)
    · exact dom2 a (List.mem_append_right _ z)
  · rcases List.mem_append.mp ha with z | z
    · exact dj a (gL a z)
    · exact dj2 a z
theorem ds_lendG {X : Cx} {W : WX} {st : Stmt} {rest : List Stmt} {E E' : List Sl} {E1 : V → List Sl} {P : Out → Prop} {δ : Type} {o : δ → OT} {d : δ → PyData} {w : δ} (i : Nat) (D0 : Dat o d) (g : E[i]? = some (.o (o w))) (hE1 : ∀ v, E.set i (.fx v (d w)) = E1 v) (h : ∀ v, DS X W st (E1 v) (th (fun E2 => E2.length = E.length ∧ E2[i]? = some (.fx v (d w))) fun _ => False)) (hE : (List.replicate E.length Sl.no).set i (.o (o w)) = E') (hr : DSs X W rest E' P) : DSs X W (st :: rest) E P :=
  ds_lend i (D0 w) g (fun v => by rw [hE1]; exact h v) hE hr
/-- a loop that keeps a slot -/
theorem ds_forL {X : Cx} {W : WX} {bod : List Stmt} {E : List Sl} {pos : Pos} {α σ : Type} {tg it : Expr} {f : PyData → List Sl → Option (List Sl)} {items : List α} {ea : α → PyData} {n k : Nat} {z : Sl} (env : σ → List Sl) (step : σ → α → Go σ Empty) (s0 : σ) (Inv : Nat → σ → Prop) (InvN : σ → Prop) (Pr : Empty → Out → Prop) (C : CxF X W) (J : DI X E tg it (items.map ea)) {sl : List Nat} (T : TgR X tg f sl)
    (hE : Le E (env s0)) (h0 : Inv 0 s0)
    (turn : ∀ i a s, items[i]? = some a → Inv i s → ∃ E2, f (ea a) (env s) = some E2 ∧ DSs X W bod E2 (bodyP env (step s a) (Inv (i + 1)) InvN Pr))
    (hn : ∀ s, Inv items.length s → InvN s) (hg : ∀ s, (env s).length = n ∧ (env s)[k]? = some z)
    (hf : ∀ v, foldedSetIterable it X.env v = pure v := by intro _; rfl) : DS X W (.For tg it bod [] pos) E (th (fun E2 => E2.length = n ∧ E2[k]? = some z) fun _ => False) := by
  refine DS.imp (P := th (fun E' => ∃ s', forG step items s0 = .nx s' ∧ E' = env s' ∧ InvN s') fun _ => False) ?_ (fun o h => by
    cases o with
    | nx E2 => obtain ⟨s', _, h2, _⟩ := h; rw [h2]; exact hg s'
    | _ => exact h)
  refine ds_for (fun i E1 => ∃ s, E1 = env s ∧ forG step items s0 = forG step (items.drop i) s ∧ Inv i s) _ C J T hE ⟨s0, rfl, rfl, h0⟩ ?_ ?_ hf
  · rintro i x E1 hx ⟨s, rfl, hs, hi⟩
    rw [List.getElem?_map] at hx
    cases ha : items[i]? with
    | none => rw [ha] at hx; cases hx
    | some a =>
      rw [ha] at hx
      cases Option.some.inj hx
      obtain ⟨E2, h1, h2⟩ := turn i a s ha hi
      rw [drop_get ha] at hs
      refine ⟨E2, h1, bodyP_lp h2 (fun s' q v => ⟨s', rfl, ?_, v⟩) (fun s' q v => ⟨s', ?_, rfl, v⟩) fun r o q w v => r.elim⟩
      · rw [hs, forG, q]
      · rw [hs, forG, q]
  · rintro E1 ⟨s, rfl, hs, hi⟩
    rw [List.length_map] at hi hs
    rw [List.drop_length, forG] at hs
    exact ⟨s, hs, rfl, hn s hi⟩
end D

end

section
set_option Elab.async false
set_option linter.all false
set_option autoImplicit false
set_option maxRecDepth 100000
set_option maxHeartbeats 2000000
namespace D
open PySem L2 PySem.Spec PyProof.Rows
/-! ### all ways from a place to another one, by a pile of begun ways -/
abbrev Itm := Int × Int × Int
abbrev Pth := List Int × List Int
abbrev DSt := List (List Int) × List Pth
def stp (e : Int) (p : Pth) (s : DSt) (q : Itm) : DSt :=
  if q.2.1 = gx p.2 (-1) then (if q.2.2 = e then (s.1 ++ [p.1 ++ [q.1]], s.2) else if q.2.2 ∈ p.2 then s else (s.1, s.2 ++ [(p.1 ++ [q.1], p.2 ++ [q.2.2])])) else s
/-- a way that has come to no place twice -/
structure PP (p : Pth) : Prop where
  nd : p.2.Nodup
  rg : ∀ x ∈ p.2, 0 ≤ x ∧ x < 6
  ln : p.1.length + 1 = p.2.length
theorem PP.le {p : Pth} (h : PP p) : p.2.length ≤ 6 := nodup_len 6 p.2 h.nd h.rg
theorem PP.pos {p : Pth} (h : PP p) : 1 ≤ p.2.length := by have := h.ln; omega
def pw (p : Pth) : Nat := 14 ^ (6 - p.2.length)
def bw (ps : List Pth) : Nat := (ps.map pw).sum
def tw (s : DSt) : Nat := s.1.length + 14 * bw s.2
theorem pw_pos (p : Pth) : 1 ≤ pw p := Nat.pos_of_ne_zero (by unfold pw; exact Nat.ne_of_gt (Nat.pow_pos (by decide)))
theorem bw_app (ps qs : List Pth) : bw (ps ++ qs) = bw ps + bw qs := by unfold bw; rw [List.map_append, List.sum_append]
theorem bw_one (p : Pth) : bw [p] = pw p := by unfold bw; simp
theorem bw_len (ps : List Pth) : ps.length ≤ bw ps := by
  induction ps with
  | nil => exact Nat.zero_le _
  | cons p ps ih =>
    have h := bw_app [p] ps
    rw [bw_one] at h
    have h2 := pw_pos p
    show ps.length + 1 ≤ bw ([p] ++ ps)
    omega
/-- what a turn begins with -/
structure BgI (s : DSt) : Prop where
  each : ∀ p ∈ s.2, PP p
  w : tw s ≤ 7529536
theorem bgI_0 {s : Int} (h : 0 ≤ s ∧ s < 6) : BgI ([], [([], [s])]) := ⟨fun p hp => by rw [List.mem_singleton.mp hp]; exact ⟨by simp, fun x hx => by rw [List.mem_singleton.mp hx]; exact h, rfl⟩, by unfold tw; rw [bw_one]; show 0 + 14 * 14 ^ (6 - 1) ≤ 7529536; decide⟩
/-- within the roads of one way: s0 was before -/
structure BiI (s0 : DSt) (p : Pth) (i : Nat) (s : DSt) : Prop where
  each : ∀ q ∈ s.2, PP q
  pp : PP p
  tot : tw s0 + 14 * pw p ≤ 7529536
  w : tw s ≤ tw s0 + i * pw p
theorem BiI.lt {s0 s : DSt} {p : Pth} {i : Nat} (h : BiI s0 p i s) (hi : i ≤ 13) : tw s < tw s0 + 14 * pw p := by
  have h1 := h.w
  have h2 := pw_pos p
  have h3 := Nat.mul_le_mul_right (pw p) hi
  omega
theorem BiI.l1 {s0 s : DSt} {p : Pth} {i : Nat} (h : BiI s0 p i s) (hi : i ≤ 13) : s.1.length ≤ 7529536 ∧ s.2.length ≤ 7529536 := by
  have h1 := h.lt hi
  have h2 := h.tot
  have h3 := bw_len s.2
  have h4 : s.1.length + 14 * bw s.2 = tw s := rfl
  omega
theorem biI_0 {s : DSt} {p : Pth} (h : BgI (s.1, s.2 ++ [p])) : BiI s p 0 s := by
  have h1 := h.w
  refine ⟨fun q hq => h.each q (List.mem_append_left _ hq), h.each p (List.mem_append_right _ (List.mem_singleton.mpr rfl)), ?_, by omega⟩
  unfold tw at *
  rw [show ((s.1, s.2 ++ [p]) : DSt).2 = s.2 ++ [p] from rfl, bw_app, bw_one] at h1
  have : ((s.1, s.2 ++ [p]) : DSt).1 = s.1 := rfl
  rw [this] at h1
  omega
theorem pp_step {p : Pth} {k b : Int} (h : PP p) (hb : 0 ≤ b ∧ b < 6) (hn : b ∉ p.2) : PP (p.1 ++ [k], p.2 ++ [b]) := by
  refine ⟨List.nodup_append.mpr ⟨h.nd, by simp, fun x hx y hy z => ?_⟩, fun x hx => ?_, by have := h.ln; simp [this]⟩
  · rw [List.mem_singleton.mp hy] at z; rw [z] at hx; exact hn hx
  · rcases List.mem_append.mp hx with z | z
    · exact h.rg x z
    · rw [List.mem_singleton.mp z]; exact hb
theorem pw_step {p : Pth} {k b : Int} (h : PP (p.1 ++ [k], p.2 ++ [b])) : 14 * pw (p.1 ++ [k], p.2 ++ [b]) = pw p := by
  have hl := h.le
  rw [show ((p.1 ++ [k], p.2 ++ [b]) : Pth).2 = p.2 ++ [b] from rfl, List.length_append] at hl
  have hl' : p.2.length + 1 ≤ 6 := hl
  unfold pw
  rw [show ((p.1 ++ [k], p.2 ++ [b]) : Pth).2.length = p.2.length + 1 from by simp, show 6 - p.2.length = (6 - (p.2.length + 1)) + 1 from by omega, Nat.pow_succ, Nat.mul_comm]
theorem BiI.step {s0 s : DSt} {p : Pth} {i : Nat} {e : Int} {q : Itm} (hq : 0 ≤ q.2.2 ∧ q.2.2 < 6) (h : BiI s0 p i s) : BiI s0 p (i + 1) (stp e p s q) := by
  have h2 := pw_pos p
  have hw := h.w
  have e1 : (i + 1) * pw p = i * pw p + pw p := by rw [Nat.add_mul, Nat.one_mul]
  unfold stp
  by_cases c1 : q.2.1 = gx p.2 (-1)
  · rw [if_pos c1]
    by_cases c2 : q.2.2 = e
    · rw [if_pos c2]
      refine ⟨h.each, h.pp, h.tot, ?_⟩
      rw [e1]
      unfold tw at *
      show (s.1 ++ [p.1 ++ [q.1]]).length + 14 * bw s.2 ≤ _
      rw [List.length_append]
      show s.1.length + 1 + _ ≤ _
      omega
    · rw [if_neg c2]
      by_cases c3 : q.2.2 ∈ p.2
      · rw [if_pos c3]
        exact ⟨h.each, h.pp, h.tot, by rw [e1]; omega⟩
      · rw [if_neg c3]
        have hp := pp_step (k := q.1) h.pp hq c3
        refine ⟨fun r hr => ?_, h.pp, h.tot, ?_⟩
        · rcases List.mem_append.mp hr with z | z
          · exact h.each r z
          · rw [List.mem_singleton.mp z]; exact hp
        · rw [e1]
          have h3 := pw_step hp
          unfold tw at *
          show s.1.length + 14 * bw (s.2 ++ [_]) ≤ _
          rw [bw_app, bw_one]
          omega
  · rw [if_neg c1]
    exact ⟨h.each, h.pp, h.tot, by rw [e1]; omega⟩
theorem fold_bi {s0 : DSt} {p : Pth} {e : Int} : ∀ (us : List Itm) (i : Nat) (s : DSt), (∀ q ∈ us, 0 ≤ q.2.2 ∧ q.2.2 < 6) → BiI s0 p i s → BiI s0 p (i + us.length) (us.foldl (stp e p) s)
  | [], _, _, _, h => h
  | q :: us, i, s, hq, h => by
    have := fold_bi (e := e) us (i + 1) _ (fun r hr => hq r (List.mem_cons_of_mem _ hr)) (h.step (e := e) (hq q List.mem_cons_self))
    rw [show i + (q :: us).length = i + 1 + us.length by simp; omega]
    exact this
/-! ### the whole -/
def dfsC (s : DSt) : Bool := !decide (s.2 = [])
def dfsT (e : Int) (us : List Itm) (s : DSt) : Go DSt Empty := .nx (us.foldl (stp e (s.2.getLastD default)) (s.1, s.2.dropLast))
structure Us (us : List Itm) : Prop where
  len : us.length ≤ 13
  rg : ∀ q ∈ us, 0 ≤ q.2.2 ∧ q.2.2 < 6
theorem snoc_parts {α : Type} [Inhabited α] {l : List α} (h : l ≠ []) : l = l.dropLast ++ [l.getLastD default] := by
  rw [List.getLastD_eq_getLast?, List.getLast?_eq_some_getLast h]
  exact (List.dropLast_concat_getLast h).symm
theorem dfs_turn {e : Int} {us : List Itm} {s : DSt} (hu : Us us) (h : BgI s) (hc : ¬ s.2 = []) : ∃ s', dfsT e us s = .nx s' ∧ BgI s' ∧ tw s' < tw s := by
  have hs := snoc_parts hc
  refine ⟨_, rfl, ?_⟩
  generalize s.2.getLastD default = p at *
  generalize s.2.dropLast = front at *
  obtain ⟨f, b⟩ := s
  simp only at hs
  subst hs
  have h1 := fold_bi (e := e) us 0 (f, front) hu.rg (biI_0 (s := (f, front)) h)
  rw [Nat.zero_add] at h1
  have h2 := h1.lt hu.len
  have h3 := h1.tot
  have h4 : tw (f, front ++ [p]) = tw (f, front) + 14 * pw p := by
    unfold tw
    show f.length + 14 * bw (front ++ [p]) = f.length + 14 * bw front + 14 * pw p
    rw [bw_app, bw_one]; omega
  show BgI (us.foldl (stp e p) (f, front)) ∧ tw (us.foldl (stp e p) (f, front)) < tw (f, front ++ [p])
  exact ⟨⟨h1.each, by omega⟩, by omega⟩
theorem whileG_inv {σ : Type} {c : σ → Bool} {f : σ → Go σ Empty} (I : σ → Prop) (μ : σ → Nat) (step : ∀ s, I s → c s = true → ∃ s', f s = .nx s' ∧ I s' ∧ μ s' < μ s) : ∀ (n : Nat) (s : σ), I s → μ s < n → ∃ s', whileG c f n s = .nx s' ∧ I s' ∧ c s' = false
  | 0, s, _, h => absurd h (Nat.not_lt_zero _)
  | n + 1, s, hi, h => by
    cases q : c s with
    | false => exact ⟨s, by rw [whileG, q], hi, q⟩
    | true =>
      obtain ⟨s1, h1, h2, h3⟩ := step s hi q
      obtain ⟨s2, k1, k2, k3⟩ := whileG_inv I μ step n s1 h2 (by omega)
      exact ⟨s2, by rw [whileG, q, h1]; exact k1, k2, k3⟩
def dfs (us : List Itm) (s e : Int) : List (List Int) := goN (whileG dfsC (dfsT e us) (tw ([], [([], [s])]) + 1) ([], [([], [s])])) (fun s => sortL s.1)
/-! ### there is a way -/
inductive Cn (us : List Itm) (e : Int) : List Int → Prop
  | here {seen : List Int} {q : Itm} : q ∈ us → q.2.1 = gx seen (-1) → q.2.2 = e → Cn us e seen
  | step {seen : List Int} {q : Itm} : q ∈ us → q.2.1 = gx seen (-1) → q.2.2 ∉ seen → Cn us e (seen ++ [q.2.2]) → Cn us e seen
theorem Cn.mono {us vs : List Itm} {e : Int} {l : List Int} (h : Cn us e l) (hs : ∀ q ∈ us, ∃ r ∈ vs, r.2 = q.2) : Cn vs e l := by
  induction h with
  | here hq h1 h2 => obtain ⟨r, hr, er⟩ := hs _ hq; exact .here hr (by rw [er]; exact h1) (by rw [er]; exact h2)
  | step hq h1 h2 _ ih => obtain ⟨r, hr, er⟩ := hs _ hq; exact .step hr (by rw [er]; exact h1) (by rw [er]; exact h2) (by rw [er]; exact ih)
structure FoldI (us xs : List Itm) (e : Int) (p : Pth) (s s' : DSt) : Prop where
  keep1 : s.1 ≠ [] → s'.1 ≠ []
  keep2 : ∀ r ∈ s.2, r ∈ s'.2
  snd1 : s'.1 ≠ [] → s.1 ≠ [] ∨ Cn us e p.2
  snd2 : ∀ r ∈ s'.2, r ∈ s.2 ∨ (Cn us e r.2 → Cn us e p.2)
  cpl1 : ∀ q ∈ xs, q.2.1 = gx p.2 (-1) → q.2.2 = e → s'.1 ≠ []
  cpl2 : ∀ q ∈ xs, q.2.1 = gx p.2 (-1) → q.2.2 ≠ e → q.2.2 ∉ p.2 → ∃ r ∈ s'.2, r.2 = p.2 ++ [q.2.2]
theorem fold_i {us : List Itm} {e : Int} {p : Pth} : ∀ (xs : List Itm) (s : DSt), (∀ q ∈ xs, q ∈ us) → FoldI us xs e p s (xs.foldl (stp e p) s)
  | [], s, _ => ⟨id, fun _ h => h, .inl, fun _ h => .inl h, fun q hq => absurd hq List.not_mem_nil, fun q hq => absurd hq List.not_mem_nil⟩
  | q :: xs, s, hu => by
    have hq := hu q List.mem_cons_self
    have ih := fold_i (e := e) (p := p) xs (stp e p s q) (fun r hr => hu r (List.mem_cons_of_mem _ hr))
    show FoldI us (q :: xs) e p s (xs.foldl (stp e p) (stp e p s q))
    generalize xs.foldl (stp e p) (stp e p s q) = s' at *
    unfold stp at ih
    by_cases c1 : q.2.1 = gx p.2 (-1)
    · rw [if_pos c1] at ih
      by_cases c2 : q.2.2 = e
      · rw [if_pos c2] at ih
        have hne : s'.1 ≠ [] := ih.keep1 (by simp)
        refine ⟨fun _ => hne, ih.keep2, fun _ => .inr (.here hq c1 c2), ih.snd2, fun _ _ _ _ => hne, fun r hr h1 h2 h3 => ?_⟩
        rcases List.mem_cons.mp hr with z | z
        · rw [z] at h2; exact absurd c2 h2
        · exact ih.cpl2 r z h1 h2 h3
      · rw [if_neg c2] at ih
        by_cases c3 : q.2.2 ∈ p.2
        · rw [if_pos c3] at ih
          refine ⟨ih.keep1, ih.keep2, ih.snd1, ih.snd2, fun r hr h1 h2 => ?_, fun r hr h1 h2 h3 => ?_⟩
          · rcases List.mem_cons.mp hr with z | z
            · rw [z] at h2; exact absurd h2 c2
            · exact ih.cpl1 r z h1 h2
          · rcases List.mem_cons.mp hr with z | z
            · rw [z] at h3; exact absurd c3 h3
            · exact ih.cpl2 r z h1 h2 h3
        · rw [if_neg c3] at ih
          refine ⟨ih.keep1, fun r hr => ih.keep2 r (List.mem_append_left _ hr), ih.snd1, fun r hr => ?_, fun r hr h1 h2 => ?_, fun r hr h1 h2 h3 => ?_⟩
          · rcases ih.snd2 r hr with z | z
            · rcases List.mem_append.mp z with y | y
              · exact .inl y
              · rw [List.mem_singleton.mp y]
                exact .inr fun k => .step hq c1 c3 k
            · exact .inr z
          · rcases List.mem_cons.mp hr with z | z
            · rw [z] at h2; exact absurd h2 c2
            · exact ih.cpl1 r z h1 h2
          · rcases List.mem_cons.mp hr with z | z
            · rw [z]
              exact ⟨(p.1 ++ [q.1], p.2 ++ [q.2.2]), ih.keep2 _ (List.mem_append_right _ (List.mem_singleton.mpr rfl)), rfl⟩
            · exact ih.cpl2 r z h1 h2 h3
    · rw [if_neg c1] at ih
      refine ⟨ih.keep1, ih.keep2, ih.snd1, ih.snd2, fun r hr h1 h2 => ?_, fun r hr h1 h2 h3 => ?_⟩
      · rcases List.mem_cons.mp hr with z | z
        · rw [z] at h1; exact absurd h1 c1
        · exact ih.cpl1 r z h1 h2
      · rcases List.mem_cons.mp hr with z | z
        · rw [z] at h1; exact absurd h1 c1
        · exact ih.cpl2 r z h1 h2 h3
structure SemI (us : List Itm) (s0 e : Int) (s : DSt) : Prop where
  snd1 : s.1 ≠ [] → Cn us e [s0]
  snd2 : ∀ p ∈ s.2, Cn us e p.2 → Cn us e [s0]
  cpl : Cn us e [s0] → s.1 ≠ [] ∨ ∃ p ∈ s.2, Cn us e p.2
theorem sem_turn {us : List Itm} {s0 e : Int} {s : DSt} (h : SemI us s0 e s) (hc : ¬ s.2 = []) : SemI us s0 e (us.foldl (stp e (s.2.getLastD default)) (s.1, s.2.dropLast)) := by
  have hs := snoc_parts hc
  generalize s.2.getLastD default = p at *
  generalize s.2.dropLast = front at *
  obtain ⟨f, b⟩ := s
  simp only at hs
  subst hs
  have hf := fold_i (e := e) (p := p) us (f, front) (fun _ h => h)
  show SemI us s0 e (us.foldl (stp e p) (f, front))
  generalize us.foldl (stp e p) (f, front) = s' at *
  have hp : Cn us e p.2 → Cn us e [s0] := h.snd2 p (List.mem_append_right _ (List.mem_singleton.mpr rfl))
  refine ⟨fun k => ?_, fun r hr k => ?_, fun k => ?_⟩
  · rcases hf.snd1 k with z | z
    · exact h.snd1 z
    · exact hp z
  · rcases hf.snd2 r hr with z | z
    · exact h.snd2 r (List.mem_append_left _ z) k
    · exact hp (z k)
  · rcases h.cpl k with z | ⟨r, hr, z⟩
    · exact .inl (hf.keep1 z)
    · rcases List.mem_append.mp hr with y | y
      · exact .inr ⟨r, hf.keep2 r y, z⟩
      · rw [List.mem_singleton.mp y] at z
        cases z with
        | here hq h1 h2 => exact .inl (hf.cpl1 _ hq h1 h2)
        | @step _ q hq h1 h2 h3 =>
          by_cases c : q.2.2 = e
          · exact .inl (hf.cpl1 _ hq h1 c)
          · obtain ⟨r, hr, er⟩ := hf.cpl2 _ hq h1 c h2
            exact .inr ⟨r, hr, by rw [er]; exact h3⟩
theorem dfs_run {us : List Itm} {s e : Int} (hu : Us us) (hs : 0 ≤ s ∧ s < 6) (J : DSt → Prop) (j0 : J ([], [([], [s])])) (jt : ∀ s, BgI s → J s → ¬ s.2 = [] → J (us.foldl (stp e (s.2.getLastD default)) (s.1, s.2.dropLast))) : ∃ f, J (f, []) ∧ f.length ≤ 7529536 ∧ dfs us s e = sortL f := by
  obtain ⟨s', h1, ⟨h2, h3⟩, h4⟩ := whileG_inv (c := dfsC) (f := dfsT e us) (fun s => BgI s ∧ J s) tw (fun s hi hc => by
    have hc' : ¬ s.2 = [] := by unfold dfsC at hc; simpa using hc
    obtain ⟨s', k1, k2, k3⟩ := dfs_turn (e := e) hu hi.1 hc'
    refine ⟨s', k1, ⟨k2, ?_⟩, k3⟩
    have : s' = us.foldl (stp e (s.2.getLastD default)) (s.1, s.2.dropLast) := by
      unfold dfsT at k1; cases k1; rfl
    rw [this]
    exact jt s hi.1 hi.2 hc') (tw ([], [([], [s])]) + 1) ([], [([], [s])]) ⟨bgI_0 hs, j0⟩ (Nat.lt_succ_self _)
  have h5 : s'.2 = [] := by unfold dfsC at h4; simpa using h4
  refine ⟨s'.1, ?_, ?_, ?_⟩
  · have : s' = (s'.1, []) := Prod.ext rfl h5
    rw [← this]; exact h3
  · have := h2.w
    unfold tw at this
    omega
  · unfold dfs
    rw [goN_nx h1]
theorem sortL_nil {f : List (List Int)} : sortL f ≠ [] ↔ f ≠ [] := by
  constructor
  · intro h k; subst k; exact h (List.mergeSort_nil)
  · intro h k
    have := List.length_mergeSort (le := fun a b : List Int => decide (a ≤ b)) f
    unfold sortL at k
    rw [k] at this
    exact h (List.length_eq_zero_iff.mp this.symm)
theorem sortL_len (f : List (List Int)) : (sortL f).length = f.length := List.length_mergeSort f
/-- ways are listed just where there is one -/
theorem dfs_some {us : List Itm} {s e : Int} (hu : Us us) (hs : 0 ≤ s ∧ s < 6) : dfs us s e ≠ [] ↔ Cn us e [s] := by
  obtain ⟨f, h1, _, h2⟩ := dfs_run (e := e) hu hs (SemI us s e) ⟨fun k => absurd rfl k, fun p hp k => by rw [List.mem_singleton.mp hp] at k; exact k, fun k => .inr ⟨_, List.mem_singleton.mpr rfl, k⟩⟩ (fun s _ h hc => sem_turn h hc)
  rw [h2, sortL_nil]
  refine ⟨h1.snd1, fun k => ?_⟩
  rcases h1.cpl k with z | ⟨_, z, _⟩
  · exact z
  · exact absurd z List.not_mem_nil
theorem dfs_len {us : List Itm} {s e : Int} (hu : Us us) (hs : 0 ≤ s ∧ s < 6) : (dfs us s e).length ≤ 7529536 := by
  obtain ⟨f, _, h, h2⟩ := dfs_run (e := e) hu hs (fun _ => True) trivial (fun _ _ _ _ => trivial)
  rw [h2, sortL_len]
  exact h
/-! ### few roads, few ways -/
def mq (us : List Itm) (l : List Int) : Nat := (us.filter fun q => !decide (q.2.1 ∈ l.dropLast)).length
def kq (us : List Itm) (v : Int) : Nat := (us.filter fun q => decide (q.2.1 = v)).length
def cw (us : List Itm) (s : DSt) : Nat := s.1.length + (s.2.map fun p => mq us p.2).sum
theorem kq_mq (us : List Itm) (l : List Int) (b v : Int) (hv : gx l (-1) = v) (hl : l = l.dropLast ++ [v]) (hn : l.Nodup) : mq us (l ++ [b]) + kq us v = mq us l := by
  have hvn : v ∉ l.dropLast := by
    rw [hl] at hn
    exact fun z => (List.nodup_append.mp hn).2.2 v z v (List.mem_singleton.mpr rfl) rfl
  unfold mq kq
  rw [List.dropLast_concat]
  induction us with
  | nil => rfl
  | cons q us ih =>
    by_cases c1 : q.2.1 = v
    · have a1 : q.2.1 ∈ l := by rw [c1, hl]; exact List.mem_append_right _ (List.mem_singleton.mpr rfl)
      have a2 : q.2.1 ∉ l.dropLast := by rw [c1]; exact hvn
      rw [List.filter_cons_of_neg (by simpa using a1), List.filter_cons_of_pos (by simpa using c1), List.filter_cons_of_pos (by simpa using a2)]
      simp only [List.length_cons]
      omega
    · rw [List.filter_cons_of_neg (p := fun q : Itm => decide (q.2.1 = v)) (by simpa using c1)]
      by_cases c2 : q.2.1 ∈ l.dropLast
      · have a1 : q.2.1 ∈ l := by rw [hl]; exact List.mem_append_left _ c2
        rw [List.filter_cons_of_neg (by simpa using a1), List.filter_cons_of_neg (by simpa using c2)]
        exact ih
      · have a1 : q.2.1 ∉ l := by
          rw [hl]; intro z
          rcases List.mem_append.mp z with y | y
          · exact c2 y
          · exact c1 (List.mem_singleton.mp y)
        rw [List.filter_cons_of_pos (by simpa using a1), List.filter_cons_of_pos (by simpa using c2)]
        simp only [List.length_cons]
        omega
theorem fold_cw {us : List Itm} {e : Int} {p : Pth} {g : Nat} (hg : 1 ≤ g) (hm : ∀ b, mq us (p.2 ++ [b]) ≤ g) : ∀ (xs : List Itm) (s : DSt), cw us (xs.foldl (stp e p) s) ≤ cw us s + kq xs (gx p.2 (-1)) * g
  | [], s => by show cw us s ≤ _; omega
  | q :: xs, s => by
    have ih := fold_cw (e := e) hg hm xs (stp e p s q)
    show cw us (xs.foldl (stp e p) (stp e p s q)) ≤ _
    generalize cw us (xs.foldl (stp e p) (stp e p s q)) = z at *
    unfold stp at ih
    unfold kq at *
    by_cases c1 : q.2.1 = gx p.2 (-1)
    · rw [List.filter_cons_of_pos (by simpa using c1), List.length_cons, Nat.add_mul, Nat.one_mul]
      rw [if_pos c1] at ih
      by_cases c2 : q.2.2 = e
      · rw [if_pos c2] at ih
        unfold cw at *
        simp only [List.length_append, List.length_cons, List.length_nil] at ih
        omega
      · rw [if_neg c2] at ih
        by_cases c3 : q.2.2 ∈ p.2
        · rw [if_pos c3] at ih; omega
        · rw [if_neg c3] at ih
          have := hm q.2.2
          unfold cw at *
          simp only [List.map_append, List.sum_append, List.map_cons, List.map_nil, List.sum_cons, List.sum_nil] at ih
          omega
    · rw [List.filter_cons_of_neg (by simpa using c1)]
      rw [if_neg c1] at ih
      exact ih
theorem few {m k : Nat} (h : m ≤ 3) (hk : k ≤ m) : k * max 1 (m - k) ≤ m := by
  rcases (show k = 0 ∨ k = 1 ∨ k = 2 ∨ k = 3 by omega) with rfl | rfl | rfl | rfl <;> omega
theorem gx_last {l : List Int} (h : l ≠ []) : l = l.dropLast ++ [gx l (-1)] := by
  have h1 := snoc_parts h
  have h2 : gx l (-1) = l.getLastD default := by
    have hl : 0 < l.length := List.length_pos_iff.mpr h
    unfold gx
    rw [List.getLastD_eq_getLast?, List.getLast?_eq_getElem?]
    unfold atI
    have e1 : ixN l.length (-1) = some (l.length - 1) := by
      unfold ixN
      rw [if_neg (by decide), if_pos (by omega)]
      exact congrArg some (by omega)
    rw [e1]
    rfl
  rw [h2]; exact h1
theorem cw_turn {us : List Itm} {e : Int} {s : DSt} (h3 : us.length ≤ 3) (hb : BgI s) (hc : ¬ s.2 = []) (h : cw us s ≤ us.length) : cw us (us.foldl (stp e (s.2.getLastD default)) (s.1, s.2.dropLast)) ≤ us.length := by
  have hs := snoc_parts hc
  generalize s.2.getLastD default = p at *
  generalize s.2.dropLast = front at *
  obtain ⟨f, b⟩ := s
  simp only at hs
  subst hs
  have hp := hb.each p (List.mem_append_right _ (List.mem_singleton.mpr rfl))
  have hne : p.2 ≠ [] := fun z => by have := hp.pos; rw [z] at this; exact absurd this (by decide)
  have hl := gx_last hne
  have hk : ∀ b, mq us (p.2 ++ [b]) + kq us (gx p.2 (-1)) = mq us p.2 := fun b => kq_mq us p.2 b _ rfl hl hp.nd
  have hm3 : mq us p.2 ≤ 3 := Nat.le_trans (List.length_filter_le ..) h3
  have h0 := hk 0
  have h1 := fold_cw (us := us) (e := e) (p := p) (g := max 1 (mq us p.2 - kq us (gx p.2 (-1)))) (by omega) (fun b => by have := hk b; omega) us (f, front)
  have h2 := few hm3 (show kq us (gx p.2 (-1)) ≤ mq us p.2 by omega)
  have e2 : cw us (f, front ++ [p]) = cw us (f, front) + mq us p.2 := by
    unfold cw
    simp only [List.map_append, List.sum_append, List.map_cons, List.map_nil, List.sum_cons, List.sum_nil]
    omega
  rw [e2] at h
  show cw us (us.foldl (stp e p) (f, front)) ≤ us.length
  omega
theorem dfs_few {us : List Itm} {s e : Int} (hu : Us us) (h3 : us.length ≤ 3) (hs : 0 ≤ s ∧ s < 6) : (dfs us s e).length ≤ us.length := by
  obtain ⟨f, h1, _, h2⟩ := dfs_run (e := e) hu hs (fun s => cw us s ≤ us.length) (by
    show 0 + (mq us [s] + 0) ≤ _
    have := List.length_filter_le (fun q : Itm => !decide (q.2.1 ∈ [s].dropLast)) us
    unfold mq; omega) (fun s hb h hc => cw_turn h3 hb hc h)
  rw [h2, sortL_len]
  unfold cw at h1
  exact Nat.le_trans (Nat.le_add_right _ _) h1
/-! ### the roads that may be taken -/
theorem forG_pure {σ α : Type} {f : σ → α → Go σ Empty} {g : σ → α → σ} : ∀ (xs : List α) (_ : ∀ a ∈ xs, ∀ s, f s a = .nx (g s a)) (s : σ), forG f xs s = .nx (xs.foldl g s)
  | [], _, s => rfl
  | x :: xs, h, s => by
    unfold forG
    rw [h x List.mem_cons_self s]
    exact forG_pure xs (fun a ha => h a (List.mem_cons_of_mem _ ha)) (g s x)
theorem enumL_gx {α : Type} [Inhabited α] {xs : List α} {p : Int × α} (h : p ∈ enumL xs) : gx xs p.1 = p.2 := by
  have hb := enumL_mem h
  obtain ⟨j, hj⟩ := List.getElem?_of_mem h
  unfold enumL at hj
  rw [List.getElem?_zip_eq_some] at hj
  have hr := rng_get hj.1
  have := gx_natI xs (q := p.1) hb.1 (by omega)
  rw [show p.1.toNat = j by omega, hj.2] at this
  exact (Option.some.inj this).symm
theorem enumL_of {α : Type} {xs : List α} {x : α} (h : x ∈ xs) : ∃ k : Int, (k, x) ∈ enumL xs := by
  obtain ⟨j, hj⟩ := List.getElem?_of_mem h
  have l1 := get_lt hj
  refine ⟨(j : Int), ?_⟩
  unfold enumL
  refine List.mem_of_getElem? (i := j) ?_
  rw [List.getElem?_zip_eq_some]
  refine ⟨?_, hj⟩
  unfold rng
  rw [List.getElem?_map, List.getElem?_range l1]
  show some ((0 : Int) + (j : Int)) = _
  rw [Int.zero_add]
theorem enumL_in {α : Type} {xs : List α} {p : Int × α} (h : p ∈ enumL xs) : p.2 ∈ xs := by
  obtain ⟨j, hj⟩ := List.getElem?_of_mem h
  unfold enumL at hj
  rw [List.getElem?_zip_eq_some] at hj
  exact List.mem_of_getElem? hj.2
section
variable {α β : Type} [Inhabited α] [Inhabited β]
def usb (rs : List (T5 Int Int α β Bool)) (lane : Bool) : List Itm := ((enumL rs).filter (fun a => lane || !a.2.e)).map (fun a => (a.1, a.2.a, a.2.b))
theorem usb_len (rs : List (T5 Int Int α β Bool)) (lane : Bool) : (usb rs lane).length ≤ rs.length := by
  unfold usb
  rw [List.length_map]
  exact Nat.le_trans (List.length_filter_le ..) (by rw [enumL_len]; exact Nat.le_refl _)
theorem usb_in {rs : List (T5 Int Int α β Bool)} {lane : Bool} {q : Itm} (h : q ∈ usb rs lane) : ∃ r ∈ rs, (lane || !r.e) = true ∧ q.2 = (r.a, r.b) := by
  obtain ⟨p, hp, rfl⟩ := List.mem_map.mp h
  obtain ⟨h1, h2⟩ := List.mem_filter.mp hp
  exact ⟨p.2, enumL_in h1, h2, rfl⟩
theorem usb_of {rs : List (T5 Int Int α β Bool)} {lane : Bool} {r : T5 Int Int α β Bool} (h : r ∈ rs) (hu : (lane || !r.e) = true) : ∃ q ∈ usb rs lane, q.2 = (r.a, r.b) := by
  obtain ⟨k, hk⟩ := enumL_of h
  exact ⟨(k, r.a, r.b), List.mem_map.mpr ⟨(k, r), List.mem_filter.mpr ⟨hk, hu⟩, rfl⟩, rfl⟩
theorem usb_mono {rs rs' : List (T5 Int Int α β Bool)} {lane : Bool} (h : ∀ r ∈ rs, r ∈ rs') : ∀ q ∈ usb rs lane, ∃ r ∈ usb rs' lane, r.2 = q.2 := fun q hq => by
  obtain ⟨r, h1, h2, h3⟩ := usb_in hq
  obtain ⟨p, k1, k2⟩ := usb_of (h r h1) h2
  exact ⟨p, k1, k2.trans h3.symm⟩
theorem usb_us {rs : List (T5 Int Int α β Bool)} {lane : Bool} (h : rs.length ≤ 13) (he : ∀ r ∈ rs, 0 ≤ r.b ∧ r.b < 6) : Us (usb rs lane) := ⟨Nat.le_trans (usb_len rs lane) h, fun q hq => by
  obtain ⟨r, h1, h2, h3⟩ := usb_in hq
  rw [h3]; exact he r h1⟩
theorem usb_foldA {σ : Type} (g : σ → Itm → σ) (rs : List (T5 Int Int α β Bool)) (lane : Bool) (s : σ) : (enumL rs).foldl (fun s a => if (lane || !a.2.e) = true then g s (a.1, a.2.a, a.2.b) else s) s = (usb rs lane).foldl g s := by
  unfold usb
  rw [List.foldl_map, List.foldl_filter]
theorem foldl_same {α σ : Type} {f g : σ → α → σ} : ∀ (xs : List α) (_ : ∀ a ∈ xs, ∀ s, f s a = g s a) (s : σ), xs.foldl f s = xs.foldl g s
  | [], _, _ => rfl
  | x :: xs, h, s => by
    show xs.foldl f (f s x) = xs.foldl g (g s x)
    rw [h x List.mem_cons_self s]
    exact foldl_same xs (fun a ha => h a (List.mem_cons_of_mem _ ha)) _
theorem usb_foldB {σ : Type} (g : σ → Itm → σ) (rs : List (T5 Int Int α β Bool)) (lane : Bool) (s : σ) : (((enumL rs).filter (fun a => lane || !a.2.e)).map (fun a => a.1)).foldl (fun s k => g s (k, (gx rs k).a, (gx rs k).b)) s = (usb rs lane).foldl g s := by
  unfold usb
  rw [List.foldl_map, List.foldl_map]
  refine foldl_same _ (fun a ha s => ?_) s
  rw [enumL_gx (List.mem_filter.mp ha).1]
end
theorem gx_snoc (l : List Int) (b : Int) : gx (l ++ [b]) (-1) = b := by
  have h := gx_last (l := l ++ [b]) (by simp)
  rw [List.dropLast_concat] at h
  have := List.append_cancel_left h
  exact ((List.cons.inj this).1).symm
/-- what is shut under the roads holds all that there is a way to -/
theorem Cn.shut {us : List Itm} {R : List Int} {e : Int} (hR : ∀ q ∈ us, q.2.1 ∈ R → q.2.2 ∈ R) {l : List Int} (h : Cn us e l) : gx l (-1) ∈ R → e ∈ R := by
  induction h with
  | here hq h1 h2 => intro k; rw [← h1] at k; rw [← h2]; exact hR _ hq k
  | step hq h1 h2 _ ih => intro k; rw [← h1] at k; exact ih (by rw [gx_snoc]; exact hR _ hq k)
theorem cn_one {us : List Itm} {e s : Int} {q : Itm} (hq : q ∈ us) (h : q.2 = (s, e)) : Cn us e [s] := .here hq (by rw [h]; rfl) (by rw [h])
theorem cn_two {us : List Itm} {e s o : Int} {q r : Itm} (hq : q ∈ us) (h : q.2 = (s, o)) (hr : r ∈ us) (h' : r.2 = (o, e)) (hn : o ≠ s) : Cn us e [s] :=
  .step hq (by rw [h]; rfl) (by rw [h]; simpa using hn) (by rw [h]; exact .here hr (by rw [h']; rfl) (by rw [h']))
theorem fold_short {e : Int} {p : Pth} (hp : PP p) : ∀ (xs : List Itm) (s : DSt), (∀ w ∈ s.1, w.length ≤ 6) → ∀ w ∈ (xs.foldl (stp e p) s).1, w.length ≤ 6
  | [], _, h => h
  | q :: xs, s, h => by
    refine fold_short hp xs (stp e p s q) ?_
    unfold stp
    by_cases c1 : q.2.1 = gx p.2 (-1)
    · rw [if_pos c1]
      by_cases c2 : q.2.2 = e
      · rw [if_pos c2]
        intro w hw
        rcases List.mem_append.mp hw with z | z
        · exact h w z
        · rw [List.mem_singleton.mp z, List.length_append]
          have h1 := hp.ln
          have h2 := hp.le
          show p.1.length + 1 ≤ 6
          omega
      · rw [if_neg c2]
        by_cases c3 : q.2.2 ∈ p.2
        · rw [if_pos c3]; exact h
        · rw [if_neg c3]; exact h
    · rw [if_neg c1]; exact h
theorem dfs_ways {us : List Itm} {s e : Int} (hu : Us us) (hs : 0 ≤ s ∧ s < 6) : ∀ w ∈ dfs us s e, w.length ≤ 6 := by
  obtain ⟨f, h1, _, h2⟩ := dfs_run (e := e) hu hs (fun s => ∀ w ∈ s.1, w.length ≤ 6) (fun w hw => absurd hw List.not_mem_nil) (fun s hb h hc => by
    have hs := snoc_parts hc
    have hp := hb.each (s.2.getLastD default) (by rw [hs]; simp)
    exact fold_short hp us _ h)
  rw [h2]
  intro w hw
  exact h1 w ((List.mergeSort_perm f _).mem_iff.mp hw)
theorem cut_split {α : Type} (xs : List α) (a : Int) : cutG xs none (some a) ++ cutG xs (some a) none = xs := by
  unfold cutG
  have e1 : HT.sIx xs.length 0 none = 0 := rfl
  have e2 : HT.sIx xs.length xs.length none = xs.length := rfl
  have e3 : HT.sIx xs.length xs.length (some a) = HT.sIx xs.length 0 (some a) := rfl
  rw [e1, e2, e3, List.drop_zero, Nat.sub_zero]
  have e4 : (xs.drop (HT.sIx xs.length 0 (some a))).take (xs.length - HT.sIx xs.length 0 (some a)) = xs.drop (HT.sIx xs.length 0 (some a)) := List.take_of_length_le (by rw [List.length_drop]; exact Nat.le_refl _)
  rw [e4]
  exact List.take_append_drop _ _
theorem eqE_T4 {α β γ δ : Type} [DecidableEq α] [DecidableEq β] [DecidableEq γ] [DecidableEq δ] {m n o p : Nat} {f : α → PyData} {g : β → PyData} {h : γ → PyData} {k : δ → PyData} (hf : EqE m f) (hg : EqE n g) (hh : EqE o h) (hk : EqE p k) : EqE (m + n + o + p + 1) (eT4 f g h k) := by
  refine ⟨fun p => ?_, fun p => ?_, fun p => ?_, fun x y => ?_⟩
  · show (noDict (f p.a) && (noDict (g p.b) && (noDict (h p.c) && (noDict (k p.d) && true)))) = true
    rw [hf.nd, hg.nd, hh.nd, hk.nd]; rfl
  · show ((f p.a).canLay0 && ((g p.b).canLay0 && ((h p.c).canLay0 && ((k p.d).canLay0 && true)))) = true
    rw [hf.lay, hg.lay, hh.lay, hk.lay]; rfl
  · have h1 := hf.dep p.a
    have h2 := hg.dep p.b
    have h3 := hh.dep p.c
    have h4 := hk.dep p.d
    show max (f p.a).depth (max (g p.b).depth (max (h p.c).depth (max (k p.d).depth 0))) + 1 ≤ _
    omega
  · show (PyData.eqv (f x.a) (f y.a) && (PyData.eqv (g x.b) (g y.b) && (PyData.eqv (h x.c) (h y.c) && (PyData.eqv (k x.d) (k y.d) && true)))) = decide (x = y)
    rw [hf.eq, hg.eq, hh.eq, hk.eq, Bool.and_true]
    obtain ⟨a, b, c, d⟩ := x
    obtain ⟨a', b', c', d'⟩ := y
    rw [← Bool.decide_and, ← Bool.decide_and, ← Bool.decide_and, decide_eq_decide]
    simp
end D

end

section
set_option Elab.async false
set_option linter.all false
set_option autoImplicit false
set_option maxRecDepth 100000
set_option maxHeartbeats 2000000
namespace D
open PySem L2 PySem.Spec PyProof.Rows
/-! ### list comprehensions whose items are new own things -/
theorem EnvR.hides {K : PySem.W.Frag} {M L : List Addr} {H H' : Hp} {σ : L2.St} {E : List Sl} {N : List Addr} (h : EnvR K M L H σ E) (hN : ∀ a ∈ N, H a = none ∧ H' a ≠ none) (s : Same H H') : EnvR K (N ++ M) L H' σ E := by
  obtain ⟨⟨F, hs, nF, hL⟩, dom, dj⟩ := h
  refine ⟨⟨F, hs.mono (fz_mono fun a o n e => ⟨fun z => ?_, s a o e⟩) (fun a ha => ?_), nF, hL⟩, fun a ha => ?_, fun a ha z => ?_⟩
  · rcases List.mem_append.mp z with z | z
    · exact n (List.mem_append_left _ z)
    · rcases List.mem_append.mp z with z | z
      · rw [(hN a z).1] at e; cases e
      · exact n (List.mem_append_right _ z)
  · obtain ⟨h1, vs, h2⟩ := hs.sub a ha
    exact ⟨(List.mem_append.mp h1).elim (fun z => List.mem_append_left _ z) fun z => List.mem_append_right _ (List.mem_append_right _ z), eq_same s h2⟩
  · rcases List.mem_append.mp ha with z | z
    · exact not_none_same s (dom a (List.mem_append_left _ z))
    · rcases List.mem_append.mp z with z | z
      · exact (hN a z).2
      · exact not_none_same s (dom a (List.mem_append_right _ z))
  · rcases List.mem_append.mp z with z | z
    · exact dom a (List.mem_append_left _ ha) (hN a z).1
    · exact dj a ha z
theorem Owns.snoc {K : PySem.W.Frag} {W : List Addr} {H : Hp} : ∀ {vs : List V} {ts : List OT} {F : List Addr} {v : V} {t : OT} {G : List Addr}, Owns K W H vs ts F → Own K W H v t G → Owns K W H (vs ++ [v]) (ts ++ [t]) (F ++ G)
  | _, _, _, v, t, G, .nil, h => by
    have := Owns.cons h (.nil (K := K) (W := W) (H := H))
    simpa using this
  | _, _, _, v, t, G, .cons (F := F1) (G := G1) a b, h => by
    have := Owns.cons a (Owns.snoc b h)
    rw [List.append_assoc]
    exact this
def teLc (X : Cx) (scope : Scope) (tg it elt : Expr) (ifs : List Expr) (own : List (Str × Nat)) : TE := fun σ H Q => ∃ wi, PI X tg it wi ∧ tLc wi (lcG X scope tg) (lcT X scope ifs) (lcE X scope elt) (own.map (·.2)) σ H Q
section
variable {X : Cx} {E E' : List Sl} {elt tg it : Expr} {ifs : List Expr} {scope : Scope} {own : List (Str × Nat)} {pos : Pos} {α β : Type} {ea : α → PyData} {items : List α} {f : PyData → List Sl → Option (List Sl)} {sl : List Nat} {W : WX} {P : Out → Prop}
theorem lc_runO {o : β → OT} {xs : List α} (g : α → β) (J : DI X E tg it (xs.map ea)) (T : ∀ s H C cl fp, TgR (blkX X scope s H C cl fp) tg f sl) (hsl : ∀ j ∈ sl, j ∈ own.map (·.2)) (hl : xs.length < sizeLine)
    (turn : ∀ x ∈ xs, ∃ E2, f (ea x) (wipeE E (own.map (·.2))) = some E2 ∧ ∀ s H C cl fp, DN (blkX X scope s H C cl fp) E2 elt (o (g x))) : EvN X.K (teLc X scope tg it elt [] own) E (oS o (xs.map g)) := by
  intro M L H σ Q EI k
  obtain ⟨wi, w1, w2⟩ := J.run M L H σ (fun J H1 => ∀ D, H1 D = none → ∃ W : Nat → Nat → Hp → Prop, (∃ m, W 0 m (upd H1 D (.lst []))) ∧ ∀ i m H, W i m H →
      (J.stop i H ∧ Q (.ref D) H) ∨ (J.go i H ∧ ∃ Nx : Hp → Prop, (∀ H', Nx H' → ∃ m', m' < m ∧ W (i + 1) m' H') ∧ ∀ x H', J.yld i H x H' → lcG X scope tg x (wipe σ (own.map (·.2))) H' fun σ2 H2 => wipe σ2 (own.map (·.2)) = wipe σ (own.map (·.2)) ∧ lcT X scope [] σ2 H2 fun b H3 =>
        if b = true then lcE X scope elt σ2 H3 fun y H4 => ∃ acc, H4 D = some (.lst acc) ∧ acc.length < sizeLine ∧ Nx (upd H4 D (.lst (acc ++ [y]))) else Nx H3)) EI (fun J H1 s1 w D hD => by
    obtain ⟨G, Y, wk, hG, hY⟩ := w
    have I1 := EI.same s1
    have nD : D ∉ L ++ M := fun z => I1.dom D z hD
    let Pv : Nat → Hp → Prop := fun i H' => (∀ a o, a ≠ D → H1 a = some o → H' a = some o) ∧ ∃ acc F, H' D = some (.lst acc) ∧ F.Nodup ∧ (∀ a ∈ F, H1 a = none ∧ a ≠ D) ∧ Owns X.K ((D :: F) ++ (L ++ M)) H' acc ((xs.take i).map (fun x => o (g x))) F
    -- the lists that the comprehension holds are told by N
    have eP : ∀ i H', Pv i H' → Same H1 H' := by
      rintro i H' ⟨p1, acc, F, p2, _⟩ a o e
      exact p1 a o (fun z => by rw [z, hD] at e; cases e) e
    have fzP : ∀ (N : List Addr) (H' : Hp), (∀ a ∈ N, H1 a = none) → Same H1 H' → Same (fz (L ++ M) H1) (fz (L ++ (N ++ M)) H') := fun N H' hN s' => fz_mono fun a o n e => ⟨fun z => by
      rcases List.mem_append.mp z with z | z
      · exact n (List.mem_append_left _ z)
      · rcases List.mem_append.mp z with z | z
        · rw [hN a z] at e; cases e
        · exact n (List.mem_append_right _ z), s' a o e⟩
    refine lc_it wk Pv ⟨fun a o n e => by rw [upd_ne n]; exact e, [], [], upd_same, List.nodup_nil, fun a ha => absurd ha List.not_mem_nil, .nil⟩ (fun i H' _ p => by
      obtain ⟨p1, acc, F, p2, p3, p4, p5⟩ := id p
      exact hG (L ++ ((D :: F) ++ M)) H' (fzP (D :: F) H' (fun a ha => by
        rcases List.mem_cons.mp ha with z | z
        · rw [z]; exact hD
        · exact (p4 a z).1) (eP i H' p))) ?_ ?_
    · intro i v H' H2 hi p y
      have sH := eP i H' p
      obtain ⟨p1, acc, F, p2, p3, p4, p5⟩ := id p
      have hN1 : ∀ a ∈ D :: F, H1 a = none := fun a ha => by
        rcases List.mem_cons.mp ha with z | z
        · rw [z]; exact hD
        · exact (p4 a z).1
      have hN2 : ∀ a ∈ D :: F, H' a ≠ none := fun a ha => by
        rcases List.mem_cons.mp ha with z | z
        · rw [z, p2]; exact fun z => by cases z
        · obtain ⟨_, vs, q⟩ := Owns.sub _ _ _ p5 a z
          rw [q]; exact fun z => by cases z
      have sm := fzP (D :: F) H' hN1 sH
      have eI : EnvR X.K ((D :: F) ++ M) L H' σ E := I1.hides (fun a ha => ⟨hN1 a ha, hN2 a ha⟩) sH
      obtain ⟨s2, x', hx', rx⟩ := hY _ _ i v H2 sm eI.dom hi y
      obtain ⟨x, hx, rfl⟩ : ∃ x, xs[i]? = some x ∧ ea x = x' := by
        rw [List.getElem?_map] at hx'
        cases q : xs[i]? with
        | none => rw [q] at hx'; cases hx'
        | some a => rw [q] at hx'; exact ⟨a, rfl, Option.some.inj hx'⟩
      obtain ⟨E2, f2, tn⟩ := turn x (List.mem_of_getElem? hx)
      intro s H0 C cl fp
      obtain ⟨gg, g1, g2⟩ := (T s H0 C cl fp).ex
      refine ⟨gg, g1, g2 ((D :: F) ++ M) L H2 _ v (ea x) _ E2 _ ((eI.same s2).wipe _) rx f2 fun σ2 e2 ch => ⟨wipe_chg ch hsl, ?_⟩⟩
      intro s H0 C cl fp
      refine ⟨_, pts_nil, ?_⟩
      refine iteT (B := Pv (i + 1) H2) ?_
      intro s H0 C cl fp
      have d2 : H2 D = some (.lst acc) := s2 _ _ p2
      obtain ⟨te, b1, b2⟩ := tn s H0 C cl fp
      refine ⟨te, b1, b2 ((D :: F) ++ M) L H2 σ2 _ e2 fun w H4 F2 s4 n4 hF4 o4 => ⟨acc, s4 _ _ d2, ?_, ?_⟩⟩
      · rw [p5.length, List.length_map]
        exact Nat.lt_of_le_of_lt (by rw [List.length_take]; exact Nat.min_le_right _ _) hl
      · have s24 := s2.trans s4
        have nF2 : ∀ a ∈ F2, H' a = none := fun a ha => s2.free (hF4 a ha)
        have dF2 : ∀ a ∈ F2, a ≠ D := fun a ha z => by have := nF2 a ha; rw [z, p2] at this; cases this
        have dF : ∀ a ∈ F, a ∉ F2 := fun a ha z => hN2 a (List.mem_cons_of_mem _ ha) (nF2 a z)
        have Hn : ∀ a, a ≠ D → upd H4 D (.lst (acc ++ [w])) a = H4 a := fun a n => upd_ne n
        refine ⟨fun a o n e => by rw [upd_ne n]; exact s24 a o (p1 a o n e), acc ++ [w], F ++ F2, upd_same, List.nodup_append.mpr ⟨p3, n4, fun a ha b hb z => dF a ha (z ▸ hb)⟩, fun a ha => ?_, ?_⟩
        · rcases List.mem_append.mp ha with z | z
          · exact p4 a z
          · exact ⟨sH.free (nF2 a z), dF2 a z⟩
        · rw [List.take_add_one, hx, List.map_append]
          have sz1 : Same (fz ((D :: F) ++ (L ++ M)) H') (fz ((D :: (F ++ F2)) ++ (L ++ M)) (upd H4 D (.lst (acc ++ [w])))) := fz_mono fun a o n e => by
            have na : a ≠ D := fun z => n (by rw [z]; exact List.mem_append_left _ List.mem_cons_self)
            refine ⟨fun z => ?_, by rw [Hn a na]; exact s24 a o e⟩
            rcases List.mem_append.mp z with z | z
            · rcases List.mem_cons.mp z with z | z
              · exact na z
              · rcases List.mem_append.mp z with z | z
                · exact n (List.mem_append_left _ (List.mem_cons_of_mem _ z))
                · rw [nF2 a z] at e; cases e
            · exact n (List.mem_append_right _ z)
          have o5 := Owns.mono sz1 _ _ _ (fun a ha => by
            obtain ⟨y1, ws, y2⟩ := Owns.sub _ _ _ p5 a ha
            exact ⟨List.mem_append_left _ (List.mem_cons_of_mem _ (List.mem_append_left _ ha)), by rw [Hn a (p4 a ha).2, s24 _ _ y2, y2]⟩) p5
          have sz2 : Same (fz (F2 ++ (L ++ ((D :: F) ++ M))) H4) (fz ((D :: (F ++ F2)) ++ (L ++ M)) (upd H4 D (.lst (acc ++ [w])))) := fz_mono fun a o n e => by
            have na : a ≠ D := fun z => n (by rw [z]; exact List.mem_append_right _ (List.mem_append_right _ (List.mem_append_left _ List.mem_cons_self)))
            refine ⟨fun z => n ?_, by rw [Hn a na]; exact e⟩
            rcases List.mem_append.mp z with z | z
            · rcases List.mem_cons.mp z with z | z
              · exact absurd z na
              · rcases List.mem_append.mp z with z | z
                · exact List.mem_append_right _ (List.mem_append_right _ (List.mem_append_left _ (List.mem_cons_of_mem _ z)))
                · exact List.mem_append_left _ z
            · rcases List.mem_append.mp z with z | z
              · exact List.mem_append_right _ (List.mem_append_left _ z)
              · exact List.mem_append_right _ (List.mem_append_right _ (List.mem_append_right _ z))
          have o6 := Own.mono sz2 _ _ _ (fun a ha => ⟨List.mem_append_left _ (List.mem_cons_of_mem _ (List.mem_append_right _ ha)), Hn a (dF2 a ha)⟩) o4
          exact Owns.snoc o5 o6
    · rintro H' ⟨p1, acc, F, p2, p3, p4, p5⟩
      have s' : Same H H' := fun a o e => p1 a o (fun z => by rw [z] at e; rw [s1 _ _ e] at hD; cases hD) (s1 a o e)
      refine k (.ref D) H' (D :: F) s' (List.nodup_cons.mpr ⟨fun z => (p4 D z).2 rfl, p3⟩) (fun a ha => ?_) ?_
      · rcases List.mem_cons.mp ha with z | z
        · rw [z]; exact s1.free hD
        · exact s1.free (p4 a z).1
      · rw [List.length_map, List.take_length] at p5
        have e : (xs.map g).map o = xs.map (fun x => o (g x)) := by rw [List.map_map]; rfl
        show Own X.K ((D :: F) ++ (L ++ M)) H' (.ref D) (.l ((xs.map g).map o)) (D :: F)
        rw [e]
        exact .l (List.mem_append_left _ List.mem_cons_self) p2 p5)
  exact ⟨wi, w1, w2⟩
theorem dn_lcO {o : β → OT} (g : α → β) (hc : X.calm = true) (hN : X.N.Nodup) (J : DI X E tg it (items.map ea)) (ok : BlkOk X.N X.env.scope scope own) (T : ∀ s H C cl fp, TgR (blkX X scope s H C cl fp) tg f sl) (hl : items.length < sizeLine)
    (turn : ∀ x ∈ items, ∃ E2, f (ea x) (wipeE E (own.map (·.2))) = some E2 ∧ ∀ s H C cl fp, DN (blkX X scope s H C cl fp) E2 elt (o (g x))) (hsl : ∀ j ∈ sl, j ∈ own.map (·.2) := by decide) (hs : ∀ x, foldedSetIterable it X.env x = pure x := by intro _; rfl) : DN X E (.ListComp elt [⟨tg, it, [], 0⟩] scope pos) (oS o (items.map g)) := by
  refine ⟨_, pe_allE, fun M L H σ Q EI k => ?_⟩
  obtain ⟨wi, w1, w2⟩ := lc_runO g J T hsl hl turn M L H σ Q EI k
  exact ⟨_, pe_lc hc hN w1 ok lcG_ok lcT_ok lcE_ok hs, w2⟩
theorem evn_borrow {K : PySem.W.Frag} {te : TE} {t u : OT} (i : Nat) (g : E[i]? = some (.o t)) (hE : E.set i (.o (.d t.dat)) = E') (e2 : EvN K te E' u) (hf : oflat u = true) : EvN K te E u := by
  subst hE
  intro M L H σ Q I k
  obtain ⟨L', I', _, h1, h2⟩ := I.freeze g
  refine e2 M L' H σ Q I' fun v H' F s nF hF o => k v H' F s nF hF (Own.flat (fun a o n q => ?_) _ _ _ (fun a ha => List.mem_append_left _ ha) hf o)
  have n1 : a ∉ F := fun z => n (List.mem_append_left _ z)
  have n2 : a ∉ L' ++ M := fun z => n (List.mem_append_right _ z)
  rcases flat_back (K := K) s h1 h2 a o n2 q with z | z
  · exact .inl fun m => (List.mem_append.mp m).elim n1 z
  · exact .inr z
/-- y = [..], items new own things -/
theorem ds_setLcE {u : OT} {i : Nat} {n : Str} {py spos : Pos} (N : LocN X i n) (hyl : X.env.scope.names.lookup n = some .local) (hsw : swapsWith (.ListComp elt [⟨tg, it, [], 0⟩] scope pos) (some (.Name n py)) spos.line X.env = pure true)
    (hc : X.calm = true) (ok : BlkOk X.N X.env.scope scope own) (ev : EvN X.K (teLc X scope tg it elt [] own) E u) (hE : E.set i (.o u) = E' := by rfl) (hi : Nat.ble (i + 1) E.length = true := by rfl) (hs : ∀ x, foldedSetIterable it X.env x = pure x := by intro _; rfl) : DS X W (.Assign [.Name n py] (.ListComp elt [⟨tg, it, [], 0⟩] scope pos) spos) E (th (· = E') P) := by
  refine ⟨fun M L H σ D EI k => ?_⟩
  obtain ⟨wi, w1, w2⟩ := ev M L H σ (fun x H1 => gName i x σ H1 D.nx) EI fun v H' F s1 nF hF o => k.nx E' (F ++ L) H' _ rfl (Step.more s1 hF) (hE ▸ EI.setN (Nat.le_of_ble_eq_true hi) s1 hF nF o)
  exact ⟨_, ps_setLc hc N.nd N.ix hyl hsw w1 ok lcG_ok lcT_ok lcE_ok hs, w2⟩
end
section
variable {X : Cx} {W : WX} {E E' : List Sl} {e a b c obj : Expr} {x : PyData} {pos : Pos} {t : OT} {P : Out → Prop} {i : Nat} {p : List Nat} {n m : Int}
/-- obj[b] op= e, obj a path to a list of ints -/
theorem ds_augixP {op : Operator} {fo : Int → Int → Int} {v : Int} {ns : List Int} {sp : Pos} (ho : PIp X op (ipI fo)) (hob : DP X E obj i p) (he : DE X E e (.int v)) (hi : DE X E b (.int n)) (g : E[i]? = some (.o t)) (hsub : t.sub p = some (oL .int ns)) (h : inR ns.length n) (hE : E.set i (.o (t.put p (oL .int (sx ns n (fo (gx ns n) v))))) = E')
    (ha : ∀ ov iv new, augStore b ov iv new = (do holding [new, ov, iv] (setItem ov iv new); release [new, ov, iv] []; pure .next) := by intros; rfl) :
    DS X W (.AugAssign (.Subscript obj b sp) op e pos) E (th (· = E') P) := by
  obtain ⟨ta, a1, a2⟩ := hob
  obtain ⟨te, e1, e2⟩ := he
  obtain ⟨ti, i1, i2⟩ := hi
  refine ⟨fun M L H σ D I kk => ⟨_, ps_augS a1 i1 get_list e1 ho set_list ha, a2 M L H σ _ I fun u0 H1 s1 ⟨z, hz, at1⟩ => i2 M L H1 σ _ (I.same s1) fun u H2 s2 r2 => ?_⟩⟩
  cases r2
  have I2 := (I.same s1).same s2
  obtain ⟨z0, q, vs, G, m1, m2, m3, m4, m5, m6, m7, m8⟩ := I2.mutP g hsub
  rw [hz] at m1
  cases m1
  have ev := (at1.same s2).det m2
  subst ev
  obtain ⟨w, w1, w2⟩ := Owns.atD m4 (at_map (f := PyData.int) (at_gx h))
  cases w2
  refine ⟨q, vs, n, _, rfl, rfl, .inl (.inl m3), w1, e2 M L H2 σ _ I2 fun u H3 s3 r3 => ?_⟩
  cases r3
  refine ⟨_, _, rfl, rfl, ?_⟩
  have I3 := I2.same s3
  obtain ⟨z0', q', vs', G', k1, k2, k3, k4, k5, k6, k7, k8⟩ := I3.mutP g hsub
  rw [hz] at k1
  cases k1
  have eq := (m2.same s3).det k2
  cases eq
  obtain ⟨G2, g1, g2, g3⟩ := k4.setD (R.int (fo (gx ns n) v)) (ixD ns.length n) k5
  have hl : vs'.length = ns.length := by rw [k4.length]; simp
  obtain ⟨q1, q2⟩ := k8 H3 [] (Same.refl H3) (fun a ha => absurd ha List.not_mem_nil) (vs'.set (ixD ns.length n) (.int (fo (gx ns n) v))) _ G2 g1 g2 (fun a ha => .inl (g3 a ha))
  refine ⟨q, vs', n, ixD ns.length n, rfl, rfl, k3, by rw [hl]; exact ixN_ok h, kk.nx E' L _ σ rfl ((((Step.same s1).trans (Step.same s2)).trans (Step.same s3)).trans q2) ?_⟩
  rw [← hE]
  have e : oL .int (sx ns n (fo (gx ns n) v)) = .l (((ns.map PyData.int).map .d).set (ixD ns.length n) (.d (.int (fo (gx ns n) v)))) := by
    show OT.l _ = OT.l _
    congr 1
    unfold sx
    rw [List.map_set, List.map_set]
  rw [e]
  exact q1
variable {α : Type} [Inhabited α] {f : α → PyData} {xss : List (List α)}
theorem sub_S {n : Int} (h : inR xss.length n) : (oS (oL f) xss).sub [ixD xss.length n] = some (oL f (gx xss n)) := by
  have h1 := at_gx h
  unfold atI at h1
  rw [ixN_ok h] at h1
  have h2 : xss[ixD xss.length n]? = some (gx xss n) := h1
  show ((xss.map (oL f))[ixD xss.length n]?).bind (fun u => u.sub []) = _
  rw [List.getElem?_map, h2]
  rfl
theorem put_S {n : Int} (ys : List α) : (oS (oL f) xss).put [ixD xss.length n] (oL f ys) = oS (oL f) (sx xss n ys) := by
  show OT.l ((xss.map (oL f)).set _ (oL f ys)) = OT.l ((xss.set _ ys).map (oL f))
  rw [List.map_set]
/-- xs[n][m] op= e -/
theorem ds_augixL {op : Operator} {fo : Int → Int → Int} {v : Int} {xss : List (List Int)} {nx : Str} {np sp sp2 : Pos} (ho : PIp X op (ipI fo)) (hv : ∀ pos, PE X (.Name nx pos) (tVar i)) (he : DE X E e (.int v)) (hb : DE X E b (.int n)) (hc : DE X E c (.int m)) (g : E[i]? = some (.o (oS (oL .int) xss))) (h1 : inR xss.length n) (h2 : inR (gx xss n).length m) (hE : E.set i (.o (oS (oL .int) (sx xss n (sx (gx xss n) m (fo (gx (gx xss n) m) v))))) = E')
    (hx : PlainIx b := by exact fun _ _ => rfl)
    (ha : ∀ ov iv new, augStore c ov iv new = (do holding [new, ov, iv] (setItem ov iv new); release [new, ov, iv] []; pure .next) := by intros; rfl) :
    DS X W (.AugAssign (.Subscript (.Subscript (.Name nx np) b sp2) c sp) op e pos) E (th (· = E') P) :=
  ds_augixP ho (dp_ixL (p := []) (dp_v i (hv _) g) hb g rfl (by rw [List.length_map]; exact ixN_ok h1) hx) he hc g (sub_S h1) h2 (by rw [List.nil_append, put_S]; exact hE) ha
/-- xs[n][m] = e -/
theorem ds_setixL {y : α} {nx : Str} {np sp sp2 : Pos} (hv : ∀ pos, PE X (.Name nx pos) (tVar i)) (he : DE X E e (f y)) (hb : DE X E b (.int n)) (hc : DE X E c (.int m)) (g : E[i]? = some (.o (oS (oL f) xss))) (h1 : inR xss.length n) (h2 : inR (gx xss n).length m) (hE : E.set i (.o (oS (oL f) (sx xss n (sx (gx xss n) m y)))) = E')
    (hx : PlainIx b := by exact fun _ _ => rfl)
    (ha : ∀ v, assign (.Subscript (.Subscript (.Name nx np) b sp2) c sp) X.env v = (do
      let ov ← holding [v] (eval (.Subscript (.Name nx np) b sp2) X.env)
      let iv ← holding [v, ov] (eval c X.env)
      standAt sp
      holding [v, ov, iv] (setItem ov iv v)
      release [v, ov, iv] []) := by intro _; rfl)
    (hs : swapsWithSole [.Subscript (.Subscript (.Name nx np) b sp2) c sp] e pos.line X.env = pure false := by rfl) (hw : swappedStores [.Subscript (.Subscript (.Name nx np) b sp2) c sp] e X.env = pure none := by rfl) (h3 : (assignEach [.Subscript (.Subscript (.Name nx np) b sp2) c sp] X.env).map (·.2) = [assign (.Subscript (.Subscript (.Name nx np) b sp2) c sp) X.env] := by rfl) :
    DS X W (.Assign [.Subscript (.Subscript (.Name nx np) b sp2) c sp] e pos) E (th (· = E') P) :=
  ds_setixP (ts := ((gx xss n).map f).map .d) (j := ixD (gx xss n).length m) (dp_ixL (p := []) (dp_v i (hv _) g) hb g rfl (by rw [List.length_map]; exact ixN_ok h1) hx) he.toN hc g (sub_S h1) (by rw [List.length_map, List.length_map]; exact ixN_ok h2) (by
    have e : (OT.l ((((gx xss n).map f).map .d).set (ixD (gx xss n).length m) (.d (f y)))) = oL f (sx (gx xss n) m y) := by
      show OT.l _ = OT.l _
      congr 1
      unfold sx
      rw [List.map_set, List.map_set]
    rw [e, List.nil_append, put_S]; exact hE) ha hs hw h3
end
theorem oflat_S {β : Type} {o : β → OT} (h : ∀ y, oflat (o y) = true) (ys : List β) : oflat (oS o ys) = true := oflats_map h ys
/-! ### slices with any step -/
def tCutS2 (K : PySem.W.Frag) (te : TE) (tl th : TO) (ts : TE) (st : Int) : TE := fun σ H Q => te σ H fun x H1 => tl σ H1 fun l H2 => th σ H2 fun u H3 => ts σ H3 fun y H4 => ∃ i, y = .int i ∧ some i = some st ∧ ∃ a xs, x = .ref a ∧ SqL K H4 a xs ∧ ∀ p, H4 p = none → Q (.ref p) (upd H4 p (.lst (pickG xs l u st)))
theorem pe_cutS2 {X : Cx} {e se : Expr} {te ts : TE} {lo hi : Option Expr} {tl th : TO} {p3 pos : Pos} {st : Int} (he : PE X e te) (hl : PO X lo tl) (hh : PO X hi th) (hs : PE X se ts) (h0 : st ≠ 0) : PE X (.Subscript e (.Slice lo hi (some se) p3) pos) (tCutS2 X.K te tl th ts st) := by
  refine ⟨fun pins s σ H Q I h => ?_⟩
  refine Subscript_ (thn (he.run pins s σ H _ I h) fun v s1 ⟨x, H1, I1, r1, q1⟩ => ?_)
  refine wpAny_Slice (thn (hl.run pins s1 σ H1 _ I1 q1) fun vl s2 ⟨l, H2, I2, pl, q2⟩ => thn (hh.run pins s2 σ H2 _ I2 q2) fun vu s3 ⟨u, H3, I3, pu, q3⟩ => ?_)
  refine thn ((po_some hs).run pins s3 σ H3 (fun o H4 => o = some st ∧ ∃ a xs, x = .ref a ∧ SqL X.K H4 a xs ∧ ∀ p, H4 p = none → Q (.ref p) (upd H4 p (.lst (pickG xs l u st)))) I3 ?_) fun vs s4 ⟨o, H4, I4, ps, eo, q4⟩ => ?_
  · exact q3
  subst eo
  obtain ⟨a, xs, ex, hx, q⟩ := q4
  subst ex
  cases r1
  have I5 : Inv X pins σ H4 { s4 with heap := s4.heap.push { cls := .type "slice", data := .fields #[vl, vu, vs] } } := I4.kept (t' := s4.toks) fun b ob q => Heap.get?_push_of_some _ q
  obtain ⟨its, r, ht, hz⟩ := I5.list hx
  have hlen := r.length
  show wpAny (model X.prog X.w) X.A (subscriptTail e (.Slice lo hi (some se) p3) (.ref a) (.ref s4.heap.objs.size)) (EP X pins σ Q) X.xe { s4 with heap := s4.heap.push { cls := .type "slice", data := .fields #[vl, vu, vs] } }
  refine tail_any (ops := [.ref a, .ref s4.heap.objs.size]) ht.isList.typeIs (PySem.slot_list_getitem.lookup) ?_ (by with_unfolding_all rfl)
  refine wpAny_getItem_list_slice ht.isList (Heap.IsSliceOf.new _ vl vu vs) pl pu ps (fun z => h0 (Option.some.inj z)) ?_ (by rw [List.size_toArray]; omega)
  refine ⟨.ref _, _, I5.laid (t' := s4.toks) (o := .lst (pickG xs l u st)) (fun b ob q => Heap.get?_push_of_some _ q) (Nat.le_refl _) ?_, rfl, q _ (I5.hok.fresh (Nat.le_refl _))⟩
  refine ⟨Nat.le_trans (pick_le r l u st) hz, (slicePick its.toArray l u (some st)).toList, 0, Vals.pick r l u st, ?_⟩
  rw [Array.toArray_toList]
  exact Heap.get?_push_size _ rfl
section
variable {X : Cx} {E : List Sl} {a se : Expr} {pos : Pos} {xs : List PyData} {α : Type} {f : α → PyData}
theorem dn_cutS2 {lo hi : Option Expr} {ol oh : Option Int} {st : Int} {p2 : Pos} (ha : DE X E a (.list xs)) (hl : DO X E lo ol) (hh : DO X E hi oh) (hs : DE X E se (.int st)) (h0 : st ≠ 0) : DN X E (.Subscript a (.Slice lo hi (some se) p2) pos) (.l ((pickG xs ol oh st).map .d)) := by
  obtain ⟨ta, a1, a2⟩ := ha
  obtain ⟨tl, l1, l2⟩ := hl
  obtain ⟨th, h1, h2⟩ := hh
  obtain ⟨ts, t1, t2⟩ := hs
  refine ⟨_, pe_cutS2 a1 l1 h1 t1 h0, fun M L H σ Q I k => a2 M L H σ _ I fun v H1 s1 r1 => l2 M L H1 σ _ (I.same s1) fun H2 s2 => h2 M L H2 σ _ (I.same (s1.trans s2)) fun H3 s3 => t2 M L H3 σ _ (I.same ((s1.trans s2).trans s3)) fun w H4 s4 r4 => ?_⟩
  cases r4
  cases R.same (fz_same ((s2.trans s3).trans s4)) _ _ r1 with
  | lst hs hr => exact ⟨st, rfl, rfl, _, _, rfl, fz_sub.seq hs, fun p hp => own_new I (((s1.trans s2).trans s3).trans s4) (hr.pick ol oh st) hp k⟩
theorem dn_cutSL2 {xs : List α} {lo hi : Option Expr} {ol oh : Option Int} {st : Int} {p2 : Pos} (ha : DE X E a (eL f xs)) (hl : DO X E lo ol) (hh : DO X E hi oh) (hs : DE X E se (.int st)) (h0 : st ≠ 0) : DN X E (.Subscript a (.Slice lo hi (some se) p2) pos) (oL f (pickG xs ol oh st)) := by
  have h := dn_cutS2 (p2 := p2) (pos := pos) ha hl hh hs h0
  rw [pickG_map] at h
  exact h
end
theorem pick_mem {α : Type} {xs : List α} {lo hi : Option Int} {st : Int} {x : α} (h : x ∈ pickG xs lo hi st) : x ∈ xs := by
  unfold pickG at h
  obtain ⟨i, _, hi⟩ := List.mem_filterMap.mp h
  exact List.mem_of_getElem? hi
/-! ### more on ways -/
def pq (us : List Itm) (s : DSt) : Nat := s.1.length + (s.2.map fun p => 2 ^ mq us p.2).sum
theorem fold_pq {us : List Itm} {e : Int} {p : Pth} {g : Nat} (hg : 1 ≤ g) (hm : ∀ b, 2 ^ mq us (p.2 ++ [b]) ≤ g) : ∀ (xs : List Itm) (s : DSt), pq us (xs.foldl (stp e p) s) ≤ pq us s + kq xs (gx p.2 (-1)) * g
  | [], s => by show pq us s ≤ _; omega
  | q :: xs, s => by
    have ih := fold_pq (e := e) hg hm xs (stp e p s q)
    show pq us (xs.foldl (stp e p) (stp e p s q)) ≤ _
    generalize pq us (xs.foldl (stp e p) (stp e p s q)) = z at *
    unfold stp at ih
    unfold kq at *
    by_cases c1 : q.2.1 = gx p.2 (-1)
    · rw [List.filter_cons_of_pos (by simpa using c1), List.length_cons, Nat.add_mul, Nat.one_mul]
      rw [if_pos c1] at ih
      by_cases c2 : q.2.2 = e
      · rw [if_pos c2] at ih
        unfold pq at *
        simp only [List.length_append, List.length_cons, List.length_nil] at ih
        omega
      · rw [if_neg c2] at ih
        by_cases c3 : q.2.2 ∈ p.2
        · rw [if_pos c3] at ih; omega
        · rw [if_neg c3] at ih
          have := hm q.2.2
          unfold pq at *
          simp only [List.map_append, List.sum_append, List.map_cons, List.map_nil, List.sum_cons, List.sum_nil] at ih
          omega
    · rw [List.filter_cons_of_neg (by simpa using c1)]
      rw [if_neg c1] at ih
      exact ih
theorem pow_few : ∀ (k n : Nat), k * 2 ^ n ≤ 2 ^ (n + k)
  | 0, n => by rw [Nat.zero_mul]; exact Nat.zero_le _
  | k + 1, n => by
    have ih := pow_few k n
    have h1 : 1 ≤ 2 ^ (n + k) := Nat.pos_of_ne_zero (Nat.ne_of_gt (Nat.pow_pos (by decide)))
    have h2 : 2 ^ n ≤ 2 ^ (n + k) := Nat.pow_le_pow_right (by decide) (Nat.le_add_right _ _)
    rw [Nat.add_mul, Nat.one_mul, show n + (k + 1) = (n + k) + 1 from rfl, Nat.pow_succ]
    omega
theorem pq_turn {us : List Itm} {e : Int} {s : DSt} (hb : BgI s) (hc : ¬ s.2 = []) (h : pq us s ≤ 2 ^ us.length) : pq us (us.foldl (stp e (s.2.getLastD default)) (s.1, s.2.dropLast)) ≤ 2 ^ us.length := by
  have hs := snoc_parts hc
  generalize s.2.getLastD default = p at *
  generalize s.2.dropLast = front at *
  obtain ⟨f, b⟩ := s
  simp only at hs
  subst hs
  have hp := hb.each p (List.mem_append_right _ (List.mem_singleton.mpr rfl))
  have hne : p.2 ≠ [] := fun z => by have := hp.pos; rw [z] at this; exact absurd this (by decide)
  have hl := gx_last hne
  have hk : ∀ b, mq us (p.2 ++ [b]) + kq us (gx p.2 (-1)) = mq us p.2 := fun b => kq_mq us p.2 b _ rfl hl hp.nd
  have h0 := hk 0
  have h1 := fold_pq (us := us) (e := e) (p := p) (g := 2 ^ (mq us p.2 - kq us (gx p.2 (-1)))) (Nat.pos_of_ne_zero (Nat.ne_of_gt (Nat.pow_pos (by decide)))) (fun b => by have := hk b; exact Nat.pow_le_pow_right (by decide) (by omega)) us (f, front)
  have h2 := pow_few (kq us (gx p.2 (-1))) (mq us p.2 - kq us (gx p.2 (-1)))
  rw [show mq us p.2 - kq us (gx p.2 (-1)) + kq us (gx p.2 (-1)) = mq us p.2 by omega] at h2
  have e2 : pq us (f, front ++ [p]) = pq us (f, front) + 2 ^ mq us p.2 := by
    unfold pq
    simp only [List.map_append, List.sum_append, List.map_cons, List.map_nil, List.sum_cons, List.sum_nil]
    omega
  rw [e2] at h
  show pq us (us.foldl (stp e p) (f, front)) ≤ 2 ^ us.length
  omega
theorem dfs_pow {us : List Itm} {s e : Int} (hu : Us us) (hs : 0 ≤ s ∧ s < 6) : (dfs us s e).length ≤ 2 ^ us.length := by
  obtain ⟨f, h1, _, h2⟩ := dfs_run (e := e) hu hs (fun s => pq us s ≤ 2 ^ us.length) (by
    show 0 + (2 ^ mq us [s] + 0) ≤ _
    have : mq us [s] ≤ us.length := List.length_filter_le ..
    have := Nat.pow_le_pow_right (show 0 < 2 by decide) this
    omega) (fun s hb h hc => pq_turn hb hc h)
  rw [h2, sortL_len]
  exact Nat.le_trans (Nat.le_add_right _ _) h1
/-- the numbers on a way are roads' numbers -/
structure NumI (K : Int → Prop) (s : DSt) : Prop where
  fnd : ∀ w ∈ s.1, ∀ k ∈ w, K k
  bgn : ∀ p ∈ s.2, ∀ k ∈ p.1, K k
theorem fold_num {K : Int → Prop} {e : Int} {p : Pth} (hp : ∀ k ∈ p.1, K k) : ∀ (xs : List Itm) (s : DSt), (∀ q ∈ xs, K q.1) → NumI K s → NumI K (xs.foldl (stp e p) s)
  | [], _, _, h => h
  | q :: xs, s, hq, h => by
    have hk : ∀ k ∈ p.1 ++ [q.1], K k := fun k hk => by
      rcases List.mem_append.mp hk with z | z
      · exact hp k z
      · rw [List.mem_singleton.mp z]; exact hq q List.mem_cons_self
    refine fold_num hp xs (stp e p s q) (fun r hr => hq r (List.mem_cons_of_mem _ hr)) ?_
    unfold stp
    by_cases c1 : q.2.1 = gx p.2 (-1)
    · rw [if_pos c1]
      by_cases c2 : q.2.2 = e
      · rw [if_pos c2]
        exact ⟨fun w hw => by
          rcases List.mem_append.mp hw with z | z
          · exact h.fnd w z
          · rw [List.mem_singleton.mp z]; exact hk, h.bgn⟩
      · rw [if_neg c2]
        by_cases c3 : q.2.2 ∈ p.2
        · rw [if_pos c3]; exact h
        · rw [if_neg c3]
          exact ⟨h.fnd, fun r hr => by
            rcases List.mem_append.mp hr with z | z
            · exact h.bgn r z
            · rw [List.mem_singleton.mp z]; exact hk⟩
    · rw [if_neg c1]; exact h
theorem dfs_nums {us : List Itm} {s e : Int} {K : Int → Prop} (hu : Us us) (hs : 0 ≤ s ∧ s < 6) (hK : ∀ q ∈ us, K q.1) : ∀ w ∈ dfs us s e, ∀ k ∈ w, K k := by
  obtain ⟨f, h1, _, h2⟩ := dfs_run (e := e) hu hs (NumI K) ⟨fun w hw => absurd hw List.not_mem_nil, fun p hp k hk => by rw [List.mem_singleton.mp hp] at hk; exact absurd hk List.not_mem_nil⟩ (fun s hb h hc => by
    have hs := snoc_parts hc
    refine fold_num (h.bgn (s.2.getLastD default) (by rw [hs]; simp)) us _ hK ⟨h.fnd, fun p hp => h.bgn p ?_⟩
    rw [hs]; exact List.mem_append_left _ hp)
  rw [h2]
  intro w hw
  exact h1.fnd w ((List.mergeSort_perm f _).mem_iff.mp hw)
section
variable {α β : Type} [Inhabited α] [Inhabited β]
def usa (rs : List (T5 Int Int α β Bool)) (lane : Bool) (above : Int) : List Itm := ((enumL rs).filter (fun a => decide (above < a.1) && (lane || !a.2.e))).map (fun a => (a.1, a.2.a, a.2.b))
theorem usa_len (rs : List (T5 Int Int α β Bool)) (lane : Bool) (above : Int) : (usa rs lane above).length ≤ rs.length := by
  unfold usa
  rw [List.length_map]
  exact Nat.le_trans (List.length_filter_le ..) (by rw [enumL_len]; exact Nat.le_refl _)
theorem usa_in {rs : List (T5 Int Int α β Bool)} {lane : Bool} {above : Int} {q : Itm} (h : q ∈ usa rs lane above) : ∃ r ∈ rs, (lane || !r.e) = true ∧ q.2 = (r.a, r.b) ∧ 0 ≤ q.1 ∧ q.1 < (rs.length : Int) := by
  obtain ⟨p, hp, rfl⟩ := List.mem_map.mp h
  obtain ⟨h1, h2⟩ := List.mem_filter.mp hp
  have hb := enumL_mem h1
  exact ⟨p.2, enumL_in h1, (Bool.and_eq_true _ _ ▸ h2 : _ ∧ _).2, rfl, hb.1, hb.2⟩
theorem usa_of {rs : List (T5 Int Int α β Bool)} {lane : Bool} {r : T5 Int Int α β Bool} (h : r ∈ rs) (hu : (lane || !r.e) = true) : ∃ q ∈ usa rs lane (-1), q.2 = (r.a, r.b) := by
  obtain ⟨k, hk⟩ := enumL_of h
  have hb := enumL_mem hk
  exact ⟨(k, r.a, r.b), List.mem_map.mpr ⟨(k, r), List.mem_filter.mpr ⟨hk, by rw [hu, Bool.and_true]; exact decide_eq_true (by have := hb.1; omega)⟩, rfl⟩, rfl⟩
theorem usa_mono {rs rs' : List (T5 Int Int α β Bool)} {lane : Bool} (h : ∀ r ∈ rs, r ∈ rs') : ∀ q ∈ usa rs lane (-1), ∃ r ∈ usa rs' lane (-1), r.2 = q.2 := fun q hq => by
  obtain ⟨r, h1, h2, h3, _⟩ := usa_in hq
  obtain ⟨p, k1, k2⟩ := usa_of (h r h1) h2
  exact ⟨p, k1, k2.trans h3.symm⟩
theorem usa_us {rs : List (T5 Int Int α β Bool)} {lane : Bool} {above : Int} (h : rs.length ≤ 13) (he : ∀ r ∈ rs, 0 ≤ r.b ∧ r.b < 6) : Us (usa rs lane above) := ⟨Nat.le_trans (usa_len rs lane above) h, fun q hq => by
  obtain ⟨r, h1, h2, h3, _⟩ := usa_in hq
  rw [h3]; exact he r h1⟩
theorem usa_foldA {σ : Type} (g : σ → Itm → σ) (rs : List (T5 Int Int α β Bool)) (lane : Bool) (above : Int) (s : σ) : (enumL rs).foldl (fun s a => if (decide (above < a.1) && (lane || !a.2.e)) = true then g s (a.1, a.2.a, a.2.b) else s) s = (usa rs lane above).foldl g s := by
  unfold usa
  rw [List.foldl_map, List.foldl_filter]
end
theorem blk_in {N N' : List Str} {sc sc' scope : Scope} {own : List (Str × Nat)} (h1 : N' = N) (h2 : sc' = sc) (h : blkC N sc scope own = true) : BlkOk N' sc' scope own := by subst h1 h2; exact blkOk_by h
def relabS (scope sc : Scope) : Scope := { scope with names := scope.names.map fun (n, k) => if (k == .free && sc.kind == .function && sc.names.lookup n == some .cell) then (n, .cell) else (n, k) }
theorem blk_in2 {N N' : List Str} {scope1 sc1 scope : Scope} {env : Env} {own : List (Str × Nat)} (h1 : N' = N) (h2 : env.scope = sc1) (h : blkC N (relabS scope1 sc1) scope own = true) : BlkOk N' (relabel scope1 env) scope own := by subst h1 h2; exact blkOk_by h
end D

end

section
set_option Elab.async false
set_option linter.all false
set_option autoImplicit false
set_option maxRecDepth 100000
set_option maxHeartbeats 2000000
namespace D
open PySem L2 PySem.Spec PyProof.Rows
/-! ### own lists of own lists: items put, parts taken -/
/-- a name's slot is emptied; its own things' addresses stay the frame's -/
theorem Slots.drop {K : PySem.W.Frag} {W : List Addr} {H : Hp} {σ : L2.St} {E : List Sl} {F : List Addr} (h : Slots K W H σ E F) : F.Nodup → ∀ (i : Nat) (v : V) (t : OT) (G : List Addr), E[i]? = some (.o t) → σ[i]? = some (some v) → Own K W H v t G →
    ∃ F', Slots K W H σ (E.set i .no) F' ∧ F'.Nodup ∧ (∀ a ∈ F', a ∈ F) ∧ ∀ a ∈ G, a ∉ F' := by
  induction h with
  | nil => intro _ i v t G e; simp at e
  | no hs ih =>
    intro nF i v t G e s o
    cases i with
    | zero => simp at e
    | succ i =>
      obtain ⟨F', h1, h2, h3, h4⟩ := ih nF i v t G (by simpa using e) (by simpa using s) o
      exact ⟨F', .no h1, h2, h3, h4⟩
  | raw hs ih =>
    intro nF i v t G e s o
    cases i with
    | zero => simp at e
    | succ i =>
      obtain ⟨F', h1, h2, h3, h4⟩ := ih nF i v t G (by simpa using e) (by simpa using s) o
      exact ⟨F', .raw h1, h2, h3, h4⟩
  | fx r hs ih =>
    intro nF i v t G e s o
    cases i with
    | zero => simp at e
    | succ i =>
      obtain ⟨F', h1, h2, h3, h4⟩ := ih nF i v t G (by simpa using e) (by simpa using s) o
      exact ⟨F', .fx r h1, h2, h3, h4⟩
  | @o v1 t1 G1 σ1 E1 F1 ho1 hs ih =>
    intro nF i v t G e s o
    obtain ⟨n1, n2, n3⟩ := List.nodup_append.mp nF
    cases i with
    | zero =>
      have e1 : t1 = t := by simpa using e
      have e2 : v1 = v := by simpa using s
      subst e1 e2
      have eG := Own.fp (Same.refl H) _ _ _ _ ho1 o
      subst eG
      exact ⟨F1, .no hs, n2, fun a ha => List.mem_append_right _ ha, fun a ha z => n3 a ha a z rfl⟩
    | succ i =>
      obtain ⟨F', h1, h2, h3, h4⟩ := ih n2 i v t G (by simpa using e) (by simpa using s) o
      refine ⟨_, .o ho1 h1, List.nodup_append.mpr ⟨n1, h2, fun a ha b hb e => n3 a ha b (h3 b hb) e⟩, fun a ha => ?_, fun a ha z => ?_⟩
      · rcases List.mem_append.mp ha with q | q
        · exact List.mem_append_left _ q
        · exact List.mem_append_right _ (h3 a q)
      · rcases List.mem_append.mp z with q | q
        · have hg := (hs.get (i := i) (t := t) (by simpa using e))
          obtain ⟨v2, G2, g1, g2, g3, g4⟩ := hg
          have e2 : v2 = v := by
            have : σ1[i]? = some (some v) := by simpa using s
            rw [this] at g1; cases g1; rfl
          subst e2
          have eG := Own.fp (Same.refl H) _ _ _ _ g2 o
          subst eG
          exact n3 a q a (g3 a ha) rfl
        · exact h4 a ha q
theorem Owns.cut {K : PySem.W.Frag} {W : List Addr} {H : Hp} : ∀ {vs : List V} {ts : List OT} {F : List Addr} (n : Nat), Owns K W H vs ts F → F.Nodup → ∃ G, Owns K W H (vs.drop n) (ts.drop n) G ∧ G.Nodup ∧ ∀ a ∈ G, a ∈ F
  | _, _, _, 0, h, n => ⟨_, h, n, fun _ h => h⟩
  | _, _, _, k + 1, .nil, n => ⟨[], .nil, List.nodup_nil, fun _ h => h⟩
  | _, _, _, k + 1, .cons h1 h2, n => by
    obtain ⟨n1, n2, n3⟩ := List.nodup_append.mp n
    obtain ⟨G, g1, g2, g3⟩ := Owns.cut k h2 n2
    exact ⟨G, g1, g2, fun a ha => List.mem_append_right _ (g3 a ha)⟩
theorem Owns.app {K : PySem.W.Frag} {W : List Addr} {H : Hp} : ∀ {vs ws : List V} {ts us : List OT} {F G : List Addr}, Owns K W H vs ts F → Owns K W H ws us G → Owns K W H (vs ++ ws) (ts ++ us) (F ++ G)
  | _, _, _, _, _, _, .nil, h => h
  | _, _, _, _, _, _, .cons a b, h => by
    have := Owns.cons a (Owns.app b h)
    rw [← List.append_assoc] at this
    exact this
theorem Owns.rev {K : PySem.W.Frag} {W : List Addr} {H : Hp} : ∀ {vs : List V} {ts : List OT} {F : List Addr}, Owns K W H vs ts F → F.Nodup → ∃ G, Owns K W H vs.reverse ts.reverse G ∧ G.Nodup ∧ ∀ a ∈ G, a ∈ F
  | _, _, _, .nil, n => ⟨[], .nil, List.nodup_nil, fun _ h => h⟩
  | _, _, _, .cons (F := F1) h1 h2, n => by
    obtain ⟨n1, n2, n3⟩ := List.nodup_append.mp n
    obtain ⟨G, g1, g2, g3⟩ := Owns.rev h2 n2
    rw [List.reverse_cons, List.reverse_cons]
    have h3 := Owns.app g1 (.cons h1 .nil)
    rw [List.append_nil] at h3
    refine ⟨_, h3, List.nodup_append.mpr ⟨g2, n1, fun a ha b hb e => n3 b hb a (g3 a ha) e.symm⟩, fun a ha => ?_⟩
    rcases List.mem_append.mp ha with z | z
    · exact List.mem_append_right _ (g3 a z)
    · exact List.mem_append_left _ z
theorem Owns.tk {K : PySem.W.Frag} {W : List Addr} {H : Hp} : ∀ {vs : List V} {ts : List OT} {F : List Addr} (n : Nat), Owns K W H vs ts F → F.Nodup → ∃ G, Owns K W H (vs.take n) (ts.take n) G ∧ G.Nodup ∧ ∀ a ∈ G, a ∈ F
  | _, _, _, 0, _, _ => ⟨[], .nil, List.nodup_nil, fun a h => absurd h List.not_mem_nil⟩
  | _, _, _, k + 1, .nil, n => ⟨[], .nil, List.nodup_nil, fun a h => absurd h List.not_mem_nil⟩
  | _, _, _, k + 1, .cons (F := F1) h1 h2, n => by
    obtain ⟨n1, n2, n3⟩ := List.nodup_append.mp n
    obtain ⟨G, g1, g2, g3⟩ := Owns.tk k h2 n2
    refine ⟨F1 ++ G, .cons h1 g1, List.nodup_append.mpr ⟨n1, g2, fun a ha b hb e => n3 a ha b (g3 b hb) e⟩, fun a ha => ?_⟩
    rcases List.mem_append.mp ha with z | z
    · exact List.mem_append_left _ z
    · exact List.mem_append_right _ (g3 a z)
/-- a name's list is put together anew of its own parts -/
theorem EnvR.regroup {K : PySem.W.Frag} {M L : List Addr} {H : Hp} {σ : L2.St} {E : List Sl} {i : Nat} {ts ts' : List OT} {vs vs' : List V} {p D : Addr} (h : EnvR K M L H σ E) (e : E[i]? = some (.o (.l ts))) (hv : σ[i]? = some (some (.ref p))) (hp : H p = some (.lst vs)) (hD : H D = none)
    (ho : ∀ G, Owns K (L ++ M) H vs ts G → G.Nodup → ∃ G', Owns K (L ++ M) H vs' ts' G' ∧ G'.Nodup ∧ ∀ a ∈ G', a ∈ G) : EnvR K M ([D] ++ L) (upd H D (.lst vs')) (σ.set i (some (.ref D))) (E.set i (.o (.l ts'))) := by
  have s1 : Same H (upd H D (.lst vs')) := same_new hD
  have h2 := h.more (F := [D]) s1 fun a ha => by rw [List.mem_singleton.mp ha]; exact ⟨hD, by rw [upd_same]; exact Option.some_ne_none _⟩
  obtain ⟨⟨F, hs, nF, hL⟩, dom, dj⟩ := h
  obtain ⟨v, G, g1, g2, g3, g4⟩ := hs.get e
  rw [hv] at g1
  cases g1
  have nG := g4 nF
  obtain ⟨F', d1, d2, d3, d4⟩ := hs.drop nF i _ _ G e hv g2
  have g2' := g2
  cases g2 with
  | @l _ vs0 _ G0 hq hl hos =>
    rw [hp] at hl
    cases hl
    have nG0 := (List.nodup_cons.mp nG).2
    obtain ⟨G', o1, o2, o3⟩ := ho G0 hos nG0
    have hw : Same (fz (L ++ M) H) (fz (([D] ++ L) ++ M) (upd H D (.lst vs'))) := fz_mono fun a o n q => ⟨fun z => by
      rw [List.append_assoc] at z
      rcases List.mem_append.mp z with z | z
      · rw [List.mem_singleton.mp z, hD] at q; cases q
      · exact n z, s1 a o q⟩
    have hin : ∀ a ∈ F, a ∈ ([D] ++ L) ++ M ∧ upd H D (.lst vs') a = H a := fun a ha => by
      obtain ⟨k1, ws, k2⟩ := hs.sub a ha
      exact ⟨by rw [List.append_assoc]; exact List.mem_append_right _ k1, eq_same s1 k2⟩
    have hD0 : ∀ a ∈ F, a ≠ D := fun a ha z => by
      obtain ⟨k1, ws, k2⟩ := hs.sub a ha
      rw [z, hD] at k2; cases k2
    have hs2 := d1.mono hw fun a ha => hin a (d3 a ha)
    have hG0 : ∀ a ∈ G', a ∈ F := fun a ha => g3 a (List.mem_cons_of_mem _ (o3 a ha))
    have o4 := Owns.mono hw _ _ _ (fun a ha => hin a (hG0 a ha)) o1
    have own : Own K (([D] ++ L) ++ M) (upd H D (.lst vs')) (.ref D) (.l ts') (D :: G') := .l (List.mem_append_left _ (List.mem_append_left _ (List.mem_singleton.mpr rfl))) upd_same o4
    have hi : i < E.length := (List.getElem?_eq_some_iff.mp e).1
    obtain ⟨F2, k1, k2, k3⟩ := hs2.set own (List.nodup_cons.mpr ⟨fun z => hD0 D (hG0 D z) rfl, o2⟩) i (by rw [List.length_set]; exact hi) d2 (fun a ha z => by
      rcases List.mem_cons.mp ha with y | y
      · exact hD0 a (d3 a z) y
      · exact d4 a (List.mem_cons_of_mem _ (o3 a y)) z)
    rw [List.set_set] at k1
    refine ⟨⟨F2, k1, k2, fun a ha => ?_⟩, h2.dom, h2.dj⟩
    rcases k3 a ha with z | z
    · exact List.mem_append_right _ (hL a (d3 a z))
    · rcases List.mem_cons.mp z with y | y
      · rw [y]; exact List.mem_append_left _ (List.mem_singleton.mpr rfl)
      · exact List.mem_append_right _ (hL a (hG0 a y))
section
variable {X : Cx} {W : WX} {E E' : List Sl} {e a b c : Expr} {i : Nat} {ts : List OT} {pos : Pos} {P : Out → Prop}
/-- x = x[lo:hi], x the frame's own -/
theorem ds_cutOwn {nx : Str} {p1 p2 p3 p4 : Pos} {lo hi : Option Expr} {ol oh : Option Int} (N : LocN X i nx) (hv : ∀ pos, PE X (.Name nx pos) (tVar i)) (g : E[i]? = some (.o (.l ts))) (hl : DO X E lo ol) (hh : DO X E hi oh) (hE : E.set i (.o (.l (cutG ts ol oh))) = E')
    (hs : swapsWith (.Subscript (.Name nx p1) (.Slice lo hi none p3) p4) (some (.Name nx p2)) pos.line X.env = pure false := by rfl) :
    DS X W (.Assign [.Name nx p2] (.Subscript (.Name nx p1) (.Slice lo hi none p3) p4) pos) E (th (· = E') P) := by
  obtain ⟨tl, l1, l2⟩ := hl
  obtain ⟨th, h1, h2⟩ := hh
  refine ⟨fun M L H σ D I k => ⟨_, ps_set N.nd N.ix N.loc (pe_slice sl_list (hv p1) l1 h1) hs N.fn, ?_⟩⟩
  obtain ⟨v, G, g1, g2, g3, g4⟩ := I.get g
  cases g2 with
  | @l q vs _ G0 hq hp ho =>
    refine ⟨_, g1, l2 M L H σ _ I fun H2 s2 => h2 M L H2 σ _ (I.same s2) fun H3 s3 => ⟨q, vs, rfl, .inl (.inl ((s2.trans s3) _ _ hp)), fun D hD => ?_⟩⟩
    have s4 := (s2.trans s3)
    have sn : Same H3 (upd H3 D (.lst (cutV vs ol oh))) := same_new hD
    refine k.nx E' ([D] ++ L) _ _ rfl (Step.more (s4.trans sn) fun a ha => by rw [List.mem_singleton.mp ha]; exact s4.free hD) (hE ▸ (I.same s4).regroup g g1 (s4 _ _ hp) hD fun G1 o n => ?_)
    have hlen := o.length
    show ∃ G', Owns X.K (L ++ M) H3 ((vs.drop (HT.sIx vs.length 0 ol)).take (HT.sIx vs.length vs.length oh - HT.sIx vs.length 0 ol)) ((ts.drop (HT.sIx ts.length 0 ol)).take (HT.sIx ts.length ts.length oh - HT.sIx ts.length 0 ol)) G' ∧ _
    rw [hlen]
    obtain ⟨G2, a1, a2, a3⟩ := Owns.cut (HT.sIx ts.length 0 ol) o n
    obtain ⟨G3, b1, b2, b3⟩ := Owns.tk (HT.sIx ts.length ts.length oh - HT.sIx ts.length 0 ol) a1 a2
    exact ⟨G3, b1, b2, fun x hx => a3 x (b3 x hx)⟩
theorem all_at {α : Type} : ∀ (ys : List α), (List.range ys.length).filterMap (ys[·]?) = ys
  | [] => rfl
  | y :: ys => by
    rw [List.length_cons, List.range_succ_eq_map, List.filterMap_cons]
    show y :: ((List.range ys.length).map Nat.succ).filterMap _ = _
    rw [List.filterMap_map]
    have := all_at ys
    exact congrArg (y :: ·) this
theorem fm_congr {α β : Type} {f g : α → Option β} : ∀ (xs : List α) (_ : ∀ x ∈ xs, f x = g x), xs.filterMap f = xs.filterMap g
  | [], _ => rfl
  | x :: xs, h => by rw [List.filterMap_cons, List.filterMap_cons, h x List.mem_cons_self, fm_congr xs fun y hy => h y (List.mem_cons_of_mem _ hy)]
theorem pick_rev {α : Type} (xs : List α) : pickG xs none none (-1) = xs.reverse := by
  have e : sliceRange (sliceBounds none none (some (-1)) xs.length).1 (sliceBounds none none (some (-1)) xs.length).2.1 (sliceBounds none none (some (-1)) xs.length).2.2 = (List.range xs.length).map fun k => xs.length - 1 - k := by
    show sliceRange ((xs.length : Int) - 1) (-1) (-1) = _
    unfold sliceRange
    have e1 : (if (-1 : Int) > 0 then (if (xs.length : Int) - 1 < -1 then (-1 - ((xs.length : Int) - 1) + -1 - 1) / -1 else 0) else (if (xs.length : Int) - 1 > -1 then ((xs.length : Int) - 1 - -1 - -1 - 1) / (- -1) else 0)) = (xs.length : Int) := by
      rw [if_neg (by decide)]
      by_cases c : (xs.length : Int) - 1 > -1
      · rw [if_pos c]
        show ((xs.length : Int) - 1 - -1 - -1 - 1) / 1 = _
        rw [Int.ediv_one]; omega
      · rw [if_neg c]; omega
    simp only [e1]
    rw [Int.toNat_natCast]
    exact List.map_congr_left fun k hk => by omega
  unfold pickG
  rw [e, List.filterMap_map]
  have e2 : (List.range xs.length).filterMap ((xs[·]?) ∘ fun k => xs.length - 1 - k) = (List.range xs.length).filterMap (xs.reverse[·]?) := by
    refine fm_congr _ fun k hk => ?_
    have := List.mem_range.mp hk
    rw [List.getElem?_reverse this]
    rfl
  rw [e2]
  have := all_at xs.reverse
  rw [List.length_reverse] at this
  exact this
/-- x = x[::-1], x the frame's own -/
theorem ds_revOwn {nx : Str} {p1 p2 p3 p4 : Pos} {se : Expr} (N : LocN X i nx) (hv : ∀ pos, PE X (.Name nx pos) (tVar i)) (g : E[i]? = some (.o (.l ts))) (ht : DE X E se (.int (-1))) (hE : E.set i (.o (.l ts.reverse)) = E')
    (hs : swapsWith (.Subscript (.Name nx p1) (.Slice none none (some se) p3) p4) (some (.Name nx p2)) pos.line X.env = pure false := by rfl) :
    DS X W (.Assign [.Name nx p2] (.Subscript (.Name nx p1) (.Slice none none (some se) p3) p4) pos) E (th (· = E') P) := by
  obtain ⟨tt, t1, t2⟩ := ht
  obtain ⟨tl, l1, l2⟩ := (do_non : DO X E none none)
  refine ⟨fun M L H σ D I k => ⟨_, ps_set N.nd N.ix N.loc (pe_cutS2 (st := -1) (hv p1) l1 l1 t1 (by decide)) hs N.fn, ?_⟩⟩
  obtain ⟨v, G, g1, g2, g3, g4⟩ := I.get g
  cases g2 with
  | @l q vs _ G0 hq hp ho =>
    refine ⟨_, g1, l2 M L H σ _ I fun H2 s2 => l2 M L H2 σ _ (I.same s2) fun H3 s3 => t2 M L H3 σ _ (I.same (s2.trans s3)) fun w H4 s5 r => ?_⟩
    cases r
    have s4 := (s2.trans s3).trans s5
    refine ⟨-1, rfl, rfl, q, vs, rfl, .inl (.inl (s4 _ _ hp)), fun D hD => ?_⟩
    rw [pick_rev]
    have sn : Same H4 (upd H4 D (.lst vs.reverse)) := same_new hD
    exact k.nx E' ([D] ++ L) _ _ rfl (Step.more (s4.trans sn) fun a ha => by rw [List.mem_singleton.mp ha]; exact s4.free hD) (hE ▸ (I.same s4).regroup g g1 (s4 _ _ hp) hD fun G1 o n => o.rev n)
variable {α : Type} [Inhabited α] {f : α → PyData} {xss : List (List α)} {n m : Int}
theorem cut_S (ol oh : Option Int) : cutG (xss.map (oL f)) ol oh = (cutG xss ol oh).map (oL f) := by
  unfold cutG
  rw [List.length_map, List.map_take, List.map_drop]
/-- xs[n] = a new list -/
theorem ds_setixS {ys : List α} {nx : Str} {np sp : Pos} (hv : ∀ pos, PE X (.Name nx pos) (tVar i)) (he : DN X E e (oL f ys)) (hb : DE X E b (.int n)) (g : E[i]? = some (.o (oS (oL f) xss))) (h1 : inR xss.length n) (hE : E.set i (.o (oS (oL f) (sx xss n ys))) = E')
    (ha : ∀ v, assign (.Subscript (.Name nx np) b sp) X.env v = (do
      let ov ← holding [v] (eval (.Name nx np) X.env)
      let iv ← holding [v, ov] (eval b X.env)
      standAt sp
      holding [v, ov, iv] (setItem ov iv v)
      release [v, ov, iv] []) := by intro _; rfl)
    (hs : swapsWithSole [.Subscript (.Name nx np) b sp] e pos.line X.env = pure false := by rfl) (hw : swappedStores [.Subscript (.Name nx np) b sp] e X.env = pure none := by rfl) (h3 : (assignEach [.Subscript (.Name nx np) b sp] X.env).map (·.2) = [assign (.Subscript (.Name nx np) b sp) X.env] := by rfl) :
    DS X W (.Assign [.Subscript (.Name nx np) b sp] e pos) E (th (· = E') P) :=
  ds_setixP (p := []) (ts := xss.map (oL f)) (j := ixD xss.length n) (dp_v i (hv _) g) he hb g rfl (by rw [List.length_map]; exact ixN_ok h1) (by
    rw [← hE]
    show E.set i (.o (.l ((xss.map (oL f)).set _ (oL f ys)))) = E.set i (.o (.l ((xss.set _ ys).map (oL f))))
    rw [List.map_set]) ha hs hw h3
/-- xs[n].append(e) -/
theorem ds_appendSL {y : α} {nx : Str} {np ap cp sp : Pos} (hv : ∀ p, PE X (.Name nx p) (tVar i)) (he : DE X E e (f y)) (hb : DE X E b (.int n)) (g : E[i]? = some (.o (oS (oL f) xss))) (h1 : inR xss.length n) (hl : (gx xss n).length < sizeLine) (hE : E.set i (.o (oS (oL f) (sx xss n (gx xss n ++ [y])))) = E')
    (hx : PlainIx b := by exact fun _ _ => rfl)
    (hbase : attributeBase (.Subscript (.Name nx np) b sp) "append" X.env (eval (.Subscript (.Name nx np) b sp) X.env) = eval (.Subscript (.Name nx np) b sp) X.env := by rfl)
    (hfew : ((backTo cp (starEach [e] X.env)).all (fun x => !x.1) && (backToKw cp (keywordEach [] X.env)).all (fun x => x.1.isSome) && decide ([e].length + ([] : List Keyword).length + (if ([] : List Keyword).isEmpty then 0 else 1) < 30)) = true := by rfl)
    (hline : (ap.endLine == cp.line) = true := by rfl) (hst : starEach [e] X.env = (false, eval e X.env) :: starEach [] X.env := by rfl) (hplain : (backTo cp (starEach [] X.env)).any (·.1) = false := by rfl)
    (hsw : swapsWith (.Call (.Attribute (.Subscript (.Name nx np) b sp) "append" ap) [e] [] cp) none pos.line X.env = pure false := by rfl) :
    DS X W (.Expr (.Call (.Attribute (.Subscript (.Name nx np) b sp) "append" ap) [e] [] cp) pos) E (th (· = E') P) :=
  ds_appendP (p := [] ++ [ixD xss.length n]) (ts := ((gx xss n).map f).map .d) (dp_ixL (p := []) (dp_v i (hv _) g) hb g rfl (by rw [List.length_map]; exact ixN_ok h1) hx) he.toN g (by rw [List.nil_append]; exact sub_S h1) (by rw [List.length_map, List.length_map]; exact hl) (by
    have e : (OT.l (((gx xss n).map f).map .d ++ [.d (f y)])) = oL f (gx xss n ++ [y]) := by
      show OT.l _ = OT.l _
      rw [List.map_append, List.map_append]
      rfl
    rw [e, List.nil_append, put_S]; exact hE) hbase hfew hline hst hplain hsw
end
/-! ### lists of numbers as lists of numbers or None -/
theorem eL_some {α : Type} (f : α → PyData) (xs : List α) : eL (eO f) (xs.map some) = eL f xs := by
  show PyData.list _ = PyData.list _
  rw [List.map_map]
  rfl
theorem eL_somes {α : Type} (f : α → PyData) (xss : List (List α)) : eL (eL (eO f)) (xss.map (List.map some)) = eL (eL f) xss := by
  show PyData.list _ = PyData.list _
  rw [List.map_map]
  exact congrArg PyData.list (List.map_congr_left fun xs _ => eL_some f xs)
theorem oL_some {α : Type} (f : α → PyData) (xs : List α) : oL (eO f) (xs.map some) = oL f xs := by
  have e : (xs.map some).map (eO f) = xs.map f := by rw [List.map_map]; rfl
  show OT.l (((xs.map some).map (eO f)).map .d) = OT.l _
  rw [e]
theorem eL_anys {α : Type} (f : α → PyData) (xss : List (List α)) : eL (eL f) xss = eL (eL eA) (xss.map (List.map f)) := by
  show PyData.list _ = PyData.list _
  rw [List.map_map]
  exact congrArg PyData.list (List.map_congr_left fun xs _ => eL_any f xs)
/-- xs[n][m] op= e, where the items are numbers or None and this row's are numbers -/
def unS (xs : List (Option Int)) : List Int := xs.map (·.getD default)
def auO (fo : Int → Int → Int) (xss : List (List (Option Int))) (n m v : Int) : List (List (Option Int)) := sx xss n ((sx (unS (gx xss n)) m (fo (gx (unS (gx xss n)) m) v)).map some)
theorem unS_some {xs : List (Option Int)} (h : ∀ x ∈ xs, x.isSome = true) : (unS xs).map some = xs := by
  unfold unS
  rw [List.map_map]
  conv => rhs; rw [← List.map_id xs]
  refine List.map_congr_left fun x hx => ?_
  have := h x hx
  cases x with
  | none => cases this
  | some y => rfl
section
variable {X : Cx} {W : WX} {E E' : List Sl} {e a b c : Expr} {i : Nat} {pos : Pos} {P : Out → Prop} {n m : Int}
theorem ds_augixO {op : Operator} {fo : Int → Int → Int} {v : Int} {xss : List (List (Option Int))} {nx : Str} {np sp sp2 : Pos} (ho : PIp X op (ipI fo)) (hv : ∀ pos, PE X (.Name nx pos) (tVar i)) (he : DE X E e (.int v)) (hb : DE X E b (.int n)) (hc : DE X E c (.int m)) (g : E[i]? = some (.o (oS (oL (eO .int)) xss))) (h1 : inR xss.length n) (h2 : inR (gx xss n).length m) (h3 : ∀ x ∈ gx xss n, x.isSome = true) (hE : E.set i (.o (oS (oL (eO .int)) (auO fo xss n m v))) = E')
    (hx : PlainIx b := by exact fun _ _ => rfl)
    (ha : ∀ ov iv new, augStore c ov iv new = (do holding [new, ov, iv] (setItem ov iv new); release [new, ov, iv] []; pure .next) := by intros; rfl) :
    DS X W (.AugAssign (.Subscript (.Subscript (.Name nx np) b sp2) c sp) op e pos) E (th (· = E') P) :=
  ds_augixP (p := [] ++ [ixD xss.length n]) (ns := unS (gx xss n)) ho (dp_ixL (p := []) (dp_v i (hv _) g) hb g rfl (by rw [List.length_map]; exact ixN_ok h1) hx) he hc g (by
    rw [List.nil_append, sub_S h1, ← oL_some PyData.int (unS (gx xss n)), unS_some h3]) (by unfold unS; rw [List.length_map]; exact h2) (by
    rw [List.nil_append, ← oL_some PyData.int (sx _ _ _), put_S]; exact hE) ha
end
theorem flat_O {α : Type} {f : α → PyData} (h : ∀ a, flat (f a) = true) (o : Option α) : flat (eO f o) = true := by
  cases o with
  | none => rfl
  | some a => exact h a
/-! ### any(xs) of whole numbers -/
theorem any_rangeI : ∀ ns : List Int, (List.range ns.length).any (fun i => decide (ns.getD i 0 ≠ 0)) = ns.any fun n => decide (n ≠ 0)
  | [] => rfl
  | b :: bs => by
    rw [List.length_cons, List.range_succ_eq_map, List.any_cons, List.any_map, List.any_cons, ← any_rangeI bs]
    all_goals rfl
theorem truth_ints {prog : Program} {w : World} {A : Around} {ns : List Int} {its : List Value} (e : Vals (ns.map V.int) its) :
    TruthOf prog w A (fun i v => its.toArray[i]? = some v) (fun i => decide (ns.getD i 0 ≠ 0)) := fun i v s Q E hv hq => by
  have hv' : its[i]? = some v := by simpa using hv
  rcases vals_get e i with ⟨h1, h2⟩ | ⟨x, u, h1, h2, h3⟩
  · rw [h2] at hv'; cases hv'
  · rw [h2] at hv'
    cases hv'
    rw [List.getElem?_map] at h1
    cases q : ns[i]? with
    | none => rw [q] at h1; cases h1
    | some n =>
      rw [q] at h1
      cases h1
      obtain ⟨t, rfl⟩ := h3
      have hg : ns.getD i 0 = n := by rw [List.getD_eq_getElem?_getD, q] <;> rfl
      have hq' : Q (decide (ns.getD i 0 ≠ 0)) s := hq
      rw [hg] at hq'
      have e9 : (n != 0) = decide (n ≠ 0) := by
        by_cases c : n = 0
        · subst c; rfl
        · rw [decide_eq_true c]; exact bne_iff_ne.mpr c
      exact truthy_int (e9 ▸ hq')
def rAnyI (K : PySem.W.Frag) : List V → Hp → VK → Prop := fun vs H Q => ∃ (a : Addr) (ns : List Int), vs = [V.ref a] ∧ SqL K H a (ns.map V.int) ∧ Q (.bl (ns.any fun n => decide (n ≠ 0))) H
theorem cr_anyI {X : Cx} (hc : X.calm = true) : CallR X (.builtin "any") (rAnyI X.K) := by
  intro pins s σ H vs us Q I r h
  obtain ⟨a, ns, rfl, hs, q⟩ := h
  obtain ⟨its, rv, hl, _⟩ := I.list hs
  rw [Vals.ref1 r]
  have hlen := rv.length
  refine call_any_walk (iter_any hl.isList fun s₂ e2 st hne => ?_)
  subst e2
  refine ⟨_, _, _, _, _, _, _, rfl, Walks.list (A := X.A.in1) (I.ok.hd hc) _ a hne its.toArray, st, truth_ints rv, fun h' tk hk => ?_⟩
  refine ⟨.bl _, H, I.kept fun b o eo => hk b o (fun hmem => ?_) (Heap.get?_push_of_some _ eo), ?_, q⟩
  · rcases List.mem_cons.mp hmem with e1 | hmem
    · exact absurd (e1 ▸ Heap.lt_size eo) (Nat.lt_irrefl _)
    · cases hmem
  · show Value.bool _ = Value.bool _
    rw [← any_rangeI, List.size_toArray]
    rw [List.length_map] at hlen
    rw [hlen]
theorem de_anyI {X : Cx} {E : List Sl} {a : Expr} {pos nm : Pos} {ns : List Int} (hc : X.calm = true) (ha : DE X E a (eL .int ns)) (hg : Gl X "any") (hm : X.mg "any" = none) (hs : starEach [a] X.env = (false, eval a X.env) :: starEach [] X.env := by rfl) : DE X E (.Call (.Name "any" nm) [a] [] pos) (.bool (ns.any fun n => decide (n ≠ 0))) := by
  obtain ⟨ta, a1, a2⟩ := ha
  refine ⟨_, pe_callB (cr_anyI hc) hg hm (by decide +kernel) (pa_cons a1 pa_nil hs) (he := hs), fun M L H σ Q I k => a2 M L H σ _ I fun v H1 s1 r1 => ?_⟩
  cases r1 with
  | lst h1 h2 =>
    have e := RA.ofInts h2
    subst e
    exact ⟨_, ns, rfl, fz_sub.seq h1, k _ H1 s1 (.bl _)⟩
/-! ### what a way's roads add up to -/
structure TelI (T D : Int → Int) (s0 e : Int) (s : DSt) : Prop where
  fnd : ∀ w ∈ s.1, (w.map T).sum = D s0 - D e
  bgn : ∀ p ∈ s.2, (p.1.map T).sum = D s0 - D (gx p.2 (-1))
theorem fold_tel {T D : Int → Int} {s0 e : Int} {p : Pth} (hp : (p.1.map T).sum = D s0 - D (gx p.2 (-1))) : ∀ (xs : List Itm) (s : DSt), (∀ q ∈ xs, T q.1 = D q.2.1 - D q.2.2) → TelI T D s0 e s → TelI T D s0 e (xs.foldl (stp e p) s)
  | [], _, _, h => h
  | q :: xs, s, hq, h => by
    have h1 := hq q List.mem_cons_self
    have hk : q.2.1 = gx p.2 (-1) → ((p.1 ++ [q.1]).map T).sum = D s0 - D q.2.2 := fun c => by
      rw [List.map_append, List.sum_append, hp]
      show _ + (T q.1 + 0) = _
      rw [h1, ← c]; omega
    refine fold_tel hp xs (stp e p s q) (fun r hr => hq r (List.mem_cons_of_mem _ hr)) ?_
    unfold stp
    by_cases c1 : q.2.1 = gx p.2 (-1)
    · rw [if_pos c1]
      by_cases c2 : q.2.2 = e
      · rw [if_pos c2]
        exact ⟨fun w hw => by
          rcases List.mem_append.mp hw with z | z
          · exact h.fnd w z
          · rw [List.mem_singleton.mp z, ← c2]; exact hk c1, h.bgn⟩
      · rw [if_neg c2]
        by_cases c3 : q.2.2 ∈ p.2
        · rw [if_pos c3]; exact h
        · rw [if_neg c3]
          exact ⟨h.fnd, fun r hr => by
            rcases List.mem_append.mp hr with z | z
            · exact h.bgn r z
            · rw [List.mem_singleton.mp z]
              show ((p.1 ++ [q.1]).map T).sum = D s0 - D (gx (p.2 ++ [q.2.2]) (-1))
              rw [gx_snoc]; exact hk c1⟩
    · rw [if_neg c1]; exact h
theorem dfs_tel {us : List Itm} {s e : Int} {T D : Int → Int} (hu : Us us) (hs : 0 ≤ s ∧ s < 6) (hT : ∀ q ∈ us, T q.1 = D q.2.1 - D q.2.2) : ∀ w ∈ dfs us s e, (w.map T).sum = D s - D e := by
  obtain ⟨f, h1, _, h2⟩ := dfs_run (e := e) hu hs (TelI T D s e) ⟨fun w hw => absurd hw List.not_mem_nil, fun p hp => by
    rw [List.mem_singleton.mp hp]
    show (0 : Int) = D s - D (gx ([] ++ [s]) (-1))
    rw [gx_snoc]; omega⟩ (fun s hb h hc => by
    have hs := snoc_parts hc
    refine fold_tel (h.bgn (s.2.getLastD default) (by rw [hs]; simp)) us _ hT ⟨h.fnd, fun p hp => h.bgn p ?_⟩
    rw [hs]; exact List.mem_append_left _ hp)
  rw [h2]
  intro w hw
  exact h1.fnd w ((List.mergeSort_perm f _).mem_iff.mp hw)
section
variable {α β : Type} [Inhabited α] [Inhabited β]
theorem usa_gx {rs : List (T5 Int Int α β Bool)} {lane : Bool} {above : Int} {q : Itm} (h : q ∈ usa rs lane above) : (lane || !(gx rs q.1).e) = true ∧ q.2 = ((gx rs q.1).a, (gx rs q.1).b) := by
  obtain ⟨p, hp, rfl⟩ := List.mem_map.mp h
  obtain ⟨h1, h2⟩ := List.mem_filter.mp hp
  have e := enumL_gx h1
  refine ⟨?_, ?_⟩
  · show (lane || !(gx rs p.1).e) = true
    rw [e]; exact (Bool.and_eq_true _ _ ▸ h2 : _ ∧ _).2
  · show (p.2.a, p.2.b) = _
    rw [e]
end
theorem foldl_snoc {α β : Type} (g : α → β) : ∀ (xs : List α) (s : List β), xs.foldl (fun s a => s ++ [g a]) s = s ++ xs.map g
  | [], s => by simp
  | x :: xs, s => by
    show xs.foldl _ (s ++ [g x]) = _
    rw [foldl_snoc g xs]; simp
end D

end

section
set_option Elab.async false
set_option linter.all false
set_option autoImplicit false
set_option maxRecDepth 100000
set_option maxHeartbeats 2000000
namespace D
open PySem L2 PySem.Spec PyProof.Rows
/-! ### a caught exception that is kept behind the suite -/
/-- what the clause wishes of an exception of the body: the suite ends with the clause's name gone, then tr goes on -/
def wKp (K : PySem.W.Frag) (c : Value) (i : Nat) (ts tr : Addr → Value → Option Addr → TS) (Wout : WX) (D : Ends) : WX := fun cls d σ H =>
  ∃ b, PySem.W.exmOne K cls c = some b ∧ (b = true → ∀ a, H a = none → ts a cls d { nx := fun σ' H' => tr a cls d D (σ'.set i none) H', rt := D.rt, bk := fun σ' H' => D.bk (σ'.set i none) H', ct := fun σ' H' => D.ct (σ'.set i none) H' } (σ.set i (some (.ref a))) H) ∧
    (b = false → Wout cls d σ H)
/-- the context behind the suite: the exception's object is known -/
abbrev kept (X : Cx) (pn : List (Addr × Obj)) : Cx := { X with pn := pn }
theorem keptOk {X : Cx} (ok : X.Ok) (pn : List (Addr × Obj)) : (kept X pn).Ok := ⟨ok.mod, ok.kind, ok.glob, ok.blt, ok.above, ok.inj, ok.has, ok.cab, ok.hd, ok.frames, ok.stk, ok.exf, ok.bs, ok.bsz, ok.noex, ok.exfs, ok.funs, ok.frf⟩
section
variable {X : Cx} {x n : Str} {c : Value} {i : Nat} {body suite rest : List Stmt} {b₀ : Stmt} {np pos pos' : Pos} {tb : WX → TS} {ts tr : Addr → Value → Option Addr → TS} {t0 : TS} {Wout : WX}
theorem pss_try_keep (hs : X.stack = X.env :: X.outer) (hf : X.env.frame = some X.env.locals) (hN : X.N.Nodup) (hi : X.N[i]? = some n) (hln : X.env.kindOf n = some .local) (hc : Names X x c) (tk : Takes X Wout)
    (hb : ∀ (W : WX) (pn : List (Addr × Obj)) (xe : Value → Shared → Prop), Takes (X.tr pn xe) W → PassesOwn (model X.prog X.w) X.A X.env xe → PSs (X.tr pn xe) body (tb W))
    (hsu : ∀ (a : Addr) (oe : Obj) (cls : Value) (d : Option Addr) (pn : List (Addr × Obj)), Zc cls d oe → (∃ vs, oe.data = .fields vs) → PSs (X.suite a ((a, oe) :: pn)) (b₀ :: suite) (ts a cls d))
    (hre : ∀ (a : Addr) (oe : Obj) (cls : Value) (d : Option Addr) (pn : List (Addr × Obj)), Zc cls d oe → (∃ vs, oe.data = .fields vs) → PSs (kept X ((a, oe) :: pn)) rest (tr a cls d)) (h0 : PSs X rest t0) :
    PSs X (.Try body [.ExceptHandler (some (.Name x np)) (some n) (b₀ :: suite) pos'] [] [] pos :: rest) (fun D σ H => tb (wKp X.K c i ts tr Wout D) { D with nx := t0 D } σ H) := by
  refine ⟨fun pins s σ H D I h => ?_⟩
  have ok := I.ok
  have hfr : X.A.frames = some (X.env :: X.outer) := by rw [ok.frames, hs]
  have hloc : Loc X.env.scope n := .inl hln
  let Po : Flow → Shared → Prop := fun f s' => match f with
    | .next => wpAny (model X.prog X.w) X.A (execs rest X.env) (SP X pins D) X.xe s'
    | f => SP X pins D f s'
  refine wpAny_execs_cons (thn (Q := Po) ?_ fun f s1 q => ?_)
  · refine wpAny_Try_except ?_
    refine wpAny_mono ((hb (wKp X.K c i ts tr Wout D) (X.pn ++ pins) (fun e s₁ => wpAny (model X.prog X.w) X.A (noteFrame e X.env) (fun _ s₂ => wpAny (model X.prog X.w) X.A (setFlight e none) (fun _ s₃ =>
      wpAny (model X.prog X.w) X.A (handleBy e X.env [.ExceptHandler (some (.Name x np)) (some n) (b₀ :: suite) pos']) Po X.xe s₃) X.xe s₂) X.xe s₁) (fun u s' xx => ?_) PassesOwn.looking).run [] s σ H { D with nx := t0 D } (I.toTry _) h) (fun f s1 hsp => ?_) (fun e s1 he => he)
    · obtain ⟨a, B, sI, pins', σ', H', cls, d, rfl, J', nb, up, sky, na, os, ag, b, hb1, hyes, hno⟩ := xx
      have J : Inv X pins σ' H' sI := J'.ofTry ok
      have sky' : Sky B (X.env :: X.outer) a (Zc cls d) X.env.locals s'.heap := by rw [← hs]; exact sky
      show wpAny (model X.prog X.w) X.A (noteFrame (.ref a) X.env) _ _ _
      refine Sky.land Zc.steady hfr hf sky' fun h3 fl3 up3 => ?_
      have J3 : Inv X pins σ' H' { s' with heap := h3 } := J.landed nb fl3.1 (up.trans up3) os ag
      obtain ⟨oe3, vs3, he3, hz3, hd3⟩ := fl3.there
      have notFr : ∀ {h : Heap} {o : Obj} {vs : Array Value}, h.FunFrames B (X.env :: X.outer) → h.get? a = some o → o.data = .fields vs → a ∉ frs (X.env :: X.outer) := fun {h o vs} ff e dd hm => by
        obtain ⟨_, o', e', hnf⟩ := ff.mem hm
        rw [e] at e'; cases e'
        exact hnf _ dd
      have nfr := notFr fl3.2.2.1 he3 hd3
      have nL : a ≠ X.env.locals := fun z => nfr (List.mem_filterMap.mpr ⟨X.env, List.mem_cons_self, by rw [hf, z]⟩)
      have nF : a ∉ X.fs := fun hm => by
        obtain ⟨e, he, q⟩ := List.mem_filterMap.mp hm
        exact nfr (List.mem_filterMap.mpr ⟨e, List.mem_cons_of_mem _ he, q⟩)
      have S3 := J3.suite he3 hd3 na nL nF
      refine wpAny_handleBy_cons (codeAny_handlers_test ?_) (by intro q; cases q)
      have LT : PySem.W.Looks (model X.prog X.w) h3 (typeOf (.ref a)) cls := fun A Q E s k q => wpAny_typeOf_ref (k _ _ he3) (by rw [hz3.1]; exact q)
      have LM := PySem.W.exm_one (M := model X.prog X.w) (J3.kIn) LT hb1
      have test : ∀ {Q : Value → Shared → Prop} {E : Value → Shared → Prop}, Q c { s' with heap := h3 } → wpAny (model X.prog X.w) (X.A.mark (some (.ref a))) (eval (.Name x np) X.env) Q E { s' with heap := h3 } := fun {Q E} q => by
        obtain ⟨hg, hdbg, hm | ⟨hm, hv, hnn⟩⟩ := hc
        · exact ld_glob (X := X.suite a ((a, oe3) :: (X.pn ++ pins))) S3 hg hm q hdbg
        · exact ld_blt (X := X.suite a ((a, oe3) :: (X.pn ++ pins))) S3 hg hm hv q hnn hdbg
      refine test (LM.here ?_)
      cases b with
      | true =>
        refine codeAny_handlers_suite_as ?_
        refine HandSPX.lands_againZ fl3 fun h4 fl4 up4 => ?_
        have J4 : Inv X pins σ' H' { s' with heap := h4 } := J.landed nb fl4.1 ((up.trans up3).trans up4) os ag
        obtain ⟨oe4, vs4, he4, hz4, hd4⟩ := fl4.there
        have S4 := J4.suite he4 hd4 na nL nF
        refine store_ok (X := X.suite a ((a, oe4) :: (X.pn ++ pins))) (v := .ref a) S4 hN hi hloc rfl (fun s5 S5 => ?_) (.inr hln)
        refine wpAny_mono ((hsu a oe4 cls d (X.pn ++ pins) hz4 ⟨_, hd4⟩).run [] s5 _ H' _ S5 (hyes rfl a na)) (fun f s6 hsp => ?_) (fun _ _ z => False.elim z)
        have end_ : ∀ {σ6 : L2.St} {H6 : Hp} {Q : Shared → Prop}, Inv (X.suite a ((a, oe4) :: (X.pn ++ pins))) [] σ6 H6 s6 → (∀ s7, Inv X ((a, oe4) :: pins) (σ6.set i none) H6 s7 → Q s7) →
            wpAny (model X.prog X.w) X.A (do bindName X.env n .none; unbindBehindTheSuite X.env n pos') (fun _ s7 => Q s7) X.xe s6 := fun {σ6 H6 Q} S6 hq => gone_ok (X := X) (pins := (a, oe4) :: pins) ⟨ok, S6.os, S6.bare, S6.base, S6.loc, S6.cell, S6.free, S6.freeC, fun p hp => S6.pin p (List.mem_append_left _ (by
              rcases List.mem_append.mp hp with z | z
              · exact List.mem_cons_of_mem _ (List.mem_append_left _ z)
              · rcases List.mem_cons.mp z with y | y
                · rw [y]; exact List.mem_cons_self
                · exact List.mem_cons_of_mem _ (List.mem_append_right _ y))), S6.hok, S6.len⟩ hN hi hln hq
        have lose : ∀ {σ7 : L2.St} {H7 : Hp} {s7 : Shared}, Inv X ((a, oe4) :: pins) σ7 H7 s7 → Inv X pins σ7 H7 s7 := fun {σ7 H7 s7} J7 => ⟨ok, J7.os, J7.bare, J7.base, J7.loc, J7.cell, J7.free, J7.freeC, fun p hp => J7.pin p (by
            rcases List.mem_append.mp hp with z | z
            · exact List.mem_append_left _ z
            · exact List.mem_append_right _ (List.mem_cons_of_mem _ z)), J7.hok, J7.len⟩
        cases f with
        | next =>
          obtain ⟨σ6, H6, S6, q6⟩ := hsp
          refine end_ S6 fun s7 J7 => ?_
          have K7 : Inv (kept X ((a, oe4) :: (X.pn ++ pins))) [] (σ6.set i none) H6 s7 := ⟨keptOk ok _, J7.os, J7.bare, J7.base, J7.loc, J7.cell, J7.free, J7.freeC, fun p hp => J7.pin p (by
            rcases List.mem_append.mp hp with z | z
            · rcases List.mem_cons.mp z with y | y
              · rw [y]; exact List.mem_append_right _ List.mem_cons_self
              · rcases List.mem_append.mp y with w | w
                · exact List.mem_append_left _ w
                · exact List.mem_append_right _ (List.mem_cons_of_mem _ w)
            · cases z), J7.hok, J7.len⟩
          have run := (hre a oe4 cls d (X.pn ++ pins) hz4 ⟨_, hd4⟩).run [] s7 _ _ D K7 q6
          have back : ∀ {σ8 : L2.St} {H8 : Hp} {s8 : Shared}, Inv (kept X ((a, oe4) :: (X.pn ++ pins))) [] σ8 H8 s8 → Inv X pins σ8 H8 s8 := fun {σ8 H8 s8} J8 => ⟨ok, J8.os, J8.bare, J8.base, J8.loc, J8.cell, J8.free, J8.freeC, fun p hp => J8.pin p (List.mem_append_left _ (List.mem_cons_of_mem _ hp)), J8.hok, J8.len⟩
          refine wpAny_mono run (fun f s8 q8 => ?_) (fun _ _ z => z)
          cases f with
          | next => obtain ⟨σ8, H8, J8, q⟩ := q8; exact ⟨σ8, H8, back J8, q⟩
          | brk => obtain ⟨σ8, H8, J8, q⟩ := q8; exact ⟨σ8, H8, back J8, q⟩
          | cont => obtain ⟨σ8, H8, J8, q⟩ := q8; exact ⟨σ8, H8, back J8, q⟩
          | ret u => obtain ⟨v8, σ8, H8, J8, r8, q⟩ := q8; exact ⟨v8, σ8, H8, back J8, r8, q⟩
        | brk =>
          obtain ⟨σ6, H6, S6, q6⟩ := hsp
          exact end_ S6 fun s7 J7 => ⟨_, _, lose J7, q6⟩
        | cont =>
          obtain ⟨σ6, H6, S6, q6⟩ := hsp
          exact end_ S6 fun s7 J7 => ⟨_, _, lose J7, q6⟩
        | ret u =>
          obtain ⟨v6, σ6, H6, S6, r6, q6⟩ := hsp
          exact end_ S6 fun s7 J7 => ⟨_, _, _, lose J7, r6, q6⟩
      | false =>
        show wpAny _ X.A (handleBy (.ref a) X.env []) _ _ _
        refine wpAny_handleBy_nil ?_
        obtain ⟨k1, k2, k3, oe, vs, T, oT, ts', he, hz, hd, h1, hr⟩ := id fl3
        unfold PySem.passOn
        refine wpAny_bind (wpAny_field he hd h1 ?_)
        rw [if_neg (show ¬ ((Value.ref T == Value.none) = true) from by simp)]
        have fin : wpAny (model X.prog X.w) X.A (setFlight (.ref a) X.env.frame) (fun _ s4 => wpAny (model X.prog X.w) X.A (throw (.ref a) : Sem Flow) Po X.xe s4) X.xe { s' with heap := h3 } := by
          rw [hf]
          refine HandSPX.setFlight_upZ fl3 fun h4 hh4 up4 => wpAny_throw (tk _ _ ?_)
          exact ⟨a, B, sI, pins, σ', H', cls, d, rfl, J, nb, (up.trans up3).trans up4, .inr (.inr (by rw [hs]; exact hh4)), na, os, ag, hno rfl⟩
        first
          | exact wpAny_bind (wpAny_pure (wpAny_bind fin))
          | exact wpAny_bind fin
    · cases f with
      | next =>
        obtain ⟨σ', H', J', q⟩ := hsp
        exact wpAny_execs_nil (h0.run pins s1 σ' H' D (J'.ofTry ok) q)
      | brk =>
        obtain ⟨σ', H', J', q⟩ := hsp
        exact ⟨σ', H', J'.ofTry ok, q⟩
      | cont =>
        obtain ⟨σ', H', J', q⟩ := hsp
        exact ⟨σ', H', J'.ofTry ok, q⟩
      | ret u =>
        obtain ⟨v, σ', H', J', r, q⟩ := hsp
        exact ⟨v, σ', H', J'.ofTry ok, r, q⟩
  · cases f with
    | next => exact q
    | brk => exact q
    | cont => exact q
    | ret u => exact q
end
/-! ### isinstance of a kept exception -/
theorem kept_inst {X : Cx} {a D : Addr} {oe : Obj} {pn pins : List (Addr × Obj)} {σ : L2.St} {H : Hp} {s : Shared} (hz : Zc (.ref D) none oe) (hf : ∃ vs, oe.data = .fields vs) (I : Inv (kept X ((a, oe) :: pn)) pins σ H s) : PySem.W.InstAt s.heap a oe D none := by
  obtain ⟨hget, _⟩ := I.pin (a, oe) (List.mem_append.mpr (.inl List.mem_cons_self))
  obtain ⟨vs, hv⟩ := hf
  obtain ⟨oc, od, oda, osl⟩ := oe
  obtain ⟨h1, h2⟩ := hz
  dsimp only at h1 h2 hv
  subst h1 h2 hv
  exact ⟨hget, rfl, rfl, trivial⟩
theorem call_isK {X : Cx} {a D : Addr} {oe : Obj} {pn : List (Addr × Obj)} (C : ExcC X.K D) (hz : Zc (.ref D) none oe) (hf : ∃ vs, oe.data = .fields vs) : CallR (kept X ((a, oe) :: pn)) (.builtin "isinstance") (rIsE X.K D a) := by
  intro pins s σ H xs us Q I r h
  obtain ⟨c, cv, b, rfl, hcv, e, q⟩ := h
  cases r with
  | cons rx rr =>
    cases rr with
    | cons rt rr =>
      cases rr
      cases rx
      have ec := hcv _ rt
      subst ec
      exact PySem.W.kia_one (PySem.W.handS_kitx_exc C.hg C.hk C.hs C.hd C.ha C.hn C.ht C.hm) I.kIn (kept_inst hz hf I) e (fun z => nomatch z) fun tk => ⟨.bl b, H, I.kept (t' := tk) fun _ _ z => z, rfl, q⟩
theorem call_isKT {X : Cx} {a D : Addr} {oe : Obj} {pn : List (Addr × Obj)} (C : ExcC X.K D) (hz : Zc (.ref D) none oe) (hf : ∃ vs, oe.data = .fields vs) : CallR (kept X ((a, oe) :: pn)) (.builtin "isinstance") (rIsET X.K D a) := by
  intro pins s σ H xs us Q I r h
  obtain ⟨tp, cs, ws, b, rfl, hT, k, e, q⟩ := h
  cases r with
  | cons rx rr =>
    cases rr with
    | cons rt rr =>
      cases rr
      cases rx
      cases rt
      obtain ⟨_, its, rv, o, h1, h2, n, h3⟩ := (show ObjOk X.prog X.w H s.heap tp (.tup cs) from I.hok tp _ hT)
      have e3 := ClsV.all k rv
      subst e3
      obtain ⟨oc, od, dt, sl⟩ := o
      simp only at h2 h3
      subst h2 h3
      exact PySem.W.kia_tup (PySem.W.handS_kitx_exc C.hg C.hk C.hs C.hd C.ha C.hn C.ht C.hm) I.kIn (kept_inst hz hf I) h1 e (fun z => nomatch z) fun tk => ⟨.bl b, H, I.kept (t' := tk) fun _ _ z => z, rfl, q⟩
section
variable {X : Cx} {W : WX} {st : Stmt} {sts rest bod : List Stmt} {E E' : List Sl} {P P' : Out → Prop} {e a b c : Expr} {es : List Expr} {pos : Pos} {p : Bool} {n : Str}
theorem de_isK {ad Dc : Addr} {oe : Obj} {pn : List (Addr × Obj)} {i : Nat} {v : V} {u : Value} {nm pc pe : Pos} {ne : Str} (C : ExcC X.K Dc) (hz : Zc (.ref Dc) none oe) (hf : ∃ vs, oe.data = .fields vs) (hv : ∀ pos, PE (kept X ((ad, oe) :: pn)) (.Name ne pos) (tVar i))
    (hE : E[i]? = some (.raw (.ref ad))) (N : ClsN (kept X ((ad, oe) :: pn)) n v u) (hg : Gl (kept X ((ad, oe) :: pn)) "isinstance") (hm : X.mg "isinstance" = none) (hk : PySem.W.kitOne X.K (.ref Dc) u = some p)
    (hs1 : starEach [.Name ne pe, .Name n pc] X.env = (false, eval (.Name ne pe) X.env) :: starEach [.Name n pc] X.env := by rfl) (hs2 : starEach [.Name n pc] X.env = (false, eval (.Name n pc) X.env) :: starEach [] X.env := by rfl)
    (hpl : (backTo pos (starEach [.Name n pc] X.env)).any (·.1) = false := by rfl) :
    DE (kept X ((ad, oe) :: pn)) E (.Call (.Name "isinstance" nm) [.Name ne pe, .Name n pc] [] pos) (.bool p) := by
  refine ⟨_, pe_callB (call_isK C hz hf) hg hm (by decide +kernel) (pa_cons (hv _) (pa_cons (N.pe _) pa_nil hs2) hs1) (he := hs1) (hpl := hpl), fun M L H σ Q I k => ?_⟩
  obtain ⟨⟨F, hsl, _⟩, _, _⟩ := id I
  exact ⟨.ref ad, hsl.getRaw hE, v, u, p, rfl, fun w r => N.is.eq r, hk, k _ H (Same.refl H) (.bl p)⟩
theorem de_isKT {ad Dc : Addr} {oe : Obj} {pn : List (Addr × Obj)} {i : Nat} {vs : List V} {us : List Value} {nm pt pe : Pos} {kk : Nat} {ne : Str} (C : ExcC X.K Dc) (hz : Zc (.ref Dc) none oe) (hf : ∃ vs, oe.data = .fields vs) (hv : ∀ pos, PE (kept X ((ad, oe) :: pn)) (.Name ne pos) (tVar i))
    (hE : E[i]? = some (.raw (.ref ad))) (N : ClsNs (kept X ((ad, oe) :: pn)) es vs us) (hl : vs.length ≤ sizeLine) (hg : Gl (kept X ((ad, oe) :: pn)) "isinstance") (hm : X.mg "isinstance" = none) (hk : PySem.W.kitAny X.K (.ref Dc) us = some p)
    (hs1 : starEach [.Name ne pe, .Tuple es kk pt] X.env = (false, eval (.Name ne pe) X.env) :: starEach [.Tuple es kk pt] X.env := by rfl) (hs2 : starEach [.Tuple es kk pt] X.env = (false, eval (.Tuple es kk pt) X.env) :: starEach [] X.env := by rfl)
    (hpl : (backTo pos (starEach [.Tuple es kk pt] X.env)).any (·.1) = false := by rfl) :
    DE (kept X ((ad, oe) :: pn)) E (.Call (.Name "isinstance" nm) [.Name ne pe, .Tuple es kk pt] [] pos) (.bool p) := by
  refine ⟨_, pe_callB (call_isKT C hz hf) hg hm (by decide +kernel) (pa_cons (hv _) (pa_cons (pe_tup N.pa) pa_nil hs2) hs1) (he := hs1) (hpl := hpl), fun M L H σ Q I k => ?_⟩
  obtain ⟨⟨F, hsl, _⟩, _, _⟩ := id I
  refine ⟨.ref ad, hsl.getRaw hE, tCs_ok ⟨hl, fun q hq => ?_⟩⟩
  exact ⟨q, vs, us, p, rfl, upd_same, N.paired, hk, k _ _ (same_new hq) (.bl p)⟩
/-- came = error -/
theorem ds_setRaw {i j : Nat} {m : Str} {v : V} {p1 p2 : Pos} (N : LocN X j n) (hv : ∀ pos, PE X (.Name m pos) (tVar i)) (hE : E[i]? = some (.raw v)) (hi : Nat.ble (j + 1) E.length = true := by rfl) (hs : swapsWith (.Name m p1) (some (.Name n p2)) pos.line X.env = pure false := by rfl) :
    DS X W (.Assign [.Name n p2] (.Name m p1) pos) E (th (· = E.set j (.raw v)) P) := by
  refine ⟨fun M L H σ D I k => ⟨_, ps_set N.nd N.ix N.loc (hv p1) hs N.fn, ?_⟩⟩
  obtain ⟨⟨F, hsl, _⟩, _, _⟩ := id I
  exact ⟨v, hsl.getRaw hE, k.nx _ L H _ rfl (Step.refl L H) (I.setRaw (Nat.le_of_ble_eq_true hi))⟩
/-- try: body, except C as n: suite; rest: the body raises C, the suite ends at E2 -/
theorem ds_try_keep {body suite : List Stmt} {b0 : Stmt} {nc nn : Str} {cls : Value} {i : Nat} {np pos' : Pos} {Ca : Addr} {E1 : List Sl} {E2 : Addr → List Sl} (T : CxF X W) (N : LocN X i nn) (hs : X.stack = X.env :: X.outer) (hf : X.env.frame = some X.env.locals) (hln : X.env.kindOf nn = some .local) (hc : Names X nc cls) (hi : i < E.length)
    (hb : ∀ (W' : WX) (pn : List (Addr × Obj)) (xe : Value → Shared → Prop), CxF (X.tr pn xe) W' → DSs (X.tr pn xe) W' body E (fun o => o = .ex Ca none E1))
    (h1 : E1.length = E.length) (hx : PySem.W.exmOne X.K (.ref Ca) cls = some true)
    (hk : ∀ (a : Addr) (oe : Obj) (pn : List (Addr × Obj)), Zc (.ref Ca) none oe → (∃ vs, oe.data = .fields vs) → DSs (X.suite a ((a, oe) :: pn)) (fun _ _ _ _ => False) (b0 :: suite) (E1.set i (.raw (.ref a))) (fun o => o = .nx (E2 a)) ∧ DSs (kept X ((a, oe) :: pn)) (fun _ _ _ _ => False) rest ((E2 a).set i .no) (fun o => P o ∧ ∀ C fs E', o ≠ .ex C fs E')) :
    DSs X W (.Try body [.ExceptHandler (some (.Name nc np)) (some nn) (b0 :: suite) pos'] [] [] pos :: rest) E P := by
  refine ⟨fun M L H σ D I k => ⟨_, pss_try_keep (i := i) (tb := fun W' D σ H => ∀ pn xe, CxF (X.tr pn xe) W' → tAll (X.tr pn xe) body D σ H) (ts := fun a cls d D σ H => ∀ (oe : Obj) (pn : List (Addr × Obj)), Zc cls d oe → (∃ vs, oe.data = .fields vs) → tAll (X.suite a ((a, oe) :: pn)) (b0 :: suite) D σ H)
    (tr := fun a cls d D σ H => ∀ (oe : Obj) (pn : List (Addr × Obj)), Zc cls d oe → (∃ vs, oe.data = .fields vs) → tAll (kept X ((a, oe) :: pn)) rest D σ H) (t0 := tAll X rest)
    hs hf N.nd N.ix hln hc T.take (fun W' pn xe tk pass => ⟨fun pins s σ H D I h => ?_⟩) (fun a oe cls d pn hz hv => ⟨fun pins s σ H D I h => ?_⟩) (fun a oe cls d pn hz hv => ⟨fun pins s σ H D I h => ?_⟩) pss_all, ?_⟩⟩
  · obtain ⟨t, h1, h2⟩ := h pn xe ⟨T.calm, pass, tk⟩
    exact h1.run pins s σ H D I h2
  · obtain ⟨t, h1, h2⟩ := h oe pn hz hv
    exact h1.run pins s σ H D I h2
  · obtain ⟨t, h1, h2⟩ := h oe pn hz hv
    exact h1.run pins s σ H D I h2
  · intro pn xe T'
    refine (hb _ pn xe T').run M L H σ _ I ⟨fun E' L' H' σ' q s J => (by cases q), fun E' L' H' σ' q s J => (by cases q), fun E' L' H' σ' q s J => (by cases q), fun t v L' H' F q s d hF nF o => (by cases q), fun C E' L' H' σ' q s J => ?_, fun C fs E' L' H' σ' d gs F q => (by cases q)⟩
    cases q
    refine ⟨true, hx, fun _ a na oe pn hz hv => ?_, fun z => by cases z⟩
    have kk := k.step s
    obtain ⟨hsu, hre⟩ := hk a oe pn hz hv
    refine hsu.run M L' H' (σ'.set i (some (.ref a))) _ (J.setRaw (by rw [h1]; exact hi)) ⟨fun E3 L2 H2 σ2 q2 s2 J2 => ?_, fun E3 L2 H2 σ2 q2 s2 J2 => (by cases q2), fun E3 L2 H2 σ2 q2 s2 J2 => (by cases q2), fun t v L2 H2 F q2 s2 d hF nF o => (by cases q2), fun C E3 L2 H2 σ2 q2 => (by cases q2), fun C fs E3 L2 H2 σ2 d gs F q2 => (by cases q2)⟩
    cases q2
    intro oe' pn' hz' hv'
    obtain ⟨_, hre'⟩ := hk a oe' pn' hz' hv'
    have k2 := kk.step s2
    exact hre'.run M L2 H2 _ D J2.setNo ⟨fun E4 L3 H3 σ3 q s J => k2.nx _ L3 H3 σ3 q.1 s J, fun E4 L3 H3 σ3 q s J => k2.bk _ L3 H3 σ3 q.1 s J, fun E4 L3 H3 σ3 q s J => k2.ct _ L3 H3 σ3 q.1 s J, fun t v L3 H3 F q s d hF nF o => k2.rt t v L3 H3 F q.1 s d hF nF o, fun C E4 L3 H3 σ3 q => absurd rfl (q.2 _ _ _), fun C fs E4 L3 H3 σ3 d gs F q => absurd rfl (q.2 _ _ _)⟩
end
end D
namespace D
open PySem L2 PySem.Spec PyProof.Rows
/-! ### the least of a list, a place in a list -/
def minI : List Int → Int
  | [] => 0
  | x :: xs => if xs = [] then x else min x (minI xs)
theorem minI_ok : ∀ (xs : List Int), xs ≠ [] → minI xs ∈ xs ∧ ∀ y ∈ xs, minI xs ≤ y
  | [], h => absurd rfl h
  | x :: xs, _ => by
    unfold minI
    by_cases c : xs = []
    · rw [if_pos c]; subst c
      exact ⟨List.mem_cons_self, fun y hy => by rw [List.mem_singleton.mp hy]; exact Int.le_refl _⟩
    · rw [if_neg c]
      obtain ⟨h1, h2⟩ := minI_ok xs c
      refine ⟨?_, fun y hy => ?_⟩
      · by_cases d : x ≤ minI xs
        · rw [Int.min_eq_left d]; exact List.mem_cons_self
        · rw [Int.min_eq_right (by omega)]; exact List.mem_cons_of_mem _ h1
      · rcases List.mem_cons.mp hy with z | z
        · rw [z]; exact Int.min_le_left _ _
        · exact Int.le_trans (Int.min_le_right _ _) (h2 y z)
def idxI : List Int → Int → Nat
  | [], _ => 0
  | x :: xs, y => if x = y then 0 else idxI xs y + 1
theorem idxI_ok : ∀ (xs : List Int) (y : Int), y ∈ xs → xs[idxI xs y]? = some y ∧ ∀ m z, m < idxI xs y → xs[m]? = some z → z ≠ y
  | [], y, h => absurd h List.not_mem_nil
  | x :: xs, y, h => by
    unfold idxI
    by_cases c : x = y
    · rw [if_pos c]
      exact ⟨by rw [c]; rfl, fun m z hm => absurd hm (Nat.not_lt_zero _)⟩
    · rw [if_neg c]
      have hy : y ∈ xs := by
        rcases List.mem_cons.mp h with z | z
        · exact absurd z.symm c
        · exact z
      obtain ⟨h1, h2⟩ := idxI_ok xs y hy
      refine ⟨by rw [List.getElem?_cons_succ]; exact h1, fun m z hm hz => ?_⟩
      cases m with
      | zero => rw [List.getElem?_cons_zero] at hz; cases hz; exact c
      | succ m => rw [List.getElem?_cons_succ] at hz; exact h2 m z (by omega) hz
theorem idxI_lt {xs : List Int} {y : Int} (h : y ∈ xs) : idxI xs y < xs.length := get_lt (idxI_ok xs y h).1
section
variable {X : Cx} {E : List Sl} {a b : Expr} {pos nm : Pos} {ns : List Int} {y : Int}
theorem de_minL (hc : X.calm = true) (ha : DE X E a (eL .int ns)) (hn : 0 < ns.length) (hg : Gl X "min") (hm : X.mg "min" = none) (hs : starEach [a] X.env = (false, eval a X.env) :: starEach [] X.env := by rfl) : DE X E (.Call (.Name "min" nm) [a] [] pos) (.int (minI ns)) := by
  obtain ⟨ta, a1, a2⟩ := ha
  refine ⟨_, pe_callB (cr_min hc) hg hm (by decide +kernel) (pa_cons a1 pa_nil hs) (he := hs), fun M L H σ Q I k => a2 M L H σ _ I fun v H1 s1 r1 => ?_⟩
  cases r1 with
  | lst h1 h2 =>
    have e := RA.ofInts h2
    subst e
    obtain ⟨k1, k2⟩ := minI_ok ns (List.length_pos_iff.mp hn)
    refine ⟨_, ns, rfl, fz_sub.seq h1, hn, fun m h3 h4 => ?_⟩
    have : m = minI ns := Int.le_antisymm (h4 _ k1) (k2 m h3)
    rw [this]
    exact k _ H1 s1 (.int _)
theorem de_indexL {ap cp : Pos} (ha : DE X E a (eL .int ns)) (hb : DE X E b (.int y)) (hy : y ∈ ns)
    (hbase : attributeBase a "index" X.env (eval a X.env) = eval a X.env := by rfl)
    (hfew : ((backTo cp (starEach [b] X.env)).all (fun x => !x.1) && (backToKw cp (keywordEach [] X.env)).all (fun x => x.1.isSome) && decide ([b].length + ([] : List Keyword).length + (if ([] : List Keyword).isEmpty then 0 else 1) < 30)) = true := by rfl)
    (hline : (ap.endLine == cp.line) = true := by rfl) (hst : starEach [b] X.env = (false, eval b X.env) :: starEach [] X.env := by rfl) (hplain : (backTo cp (starEach [] X.env)).any (·.1) = false := by rfl) :
    DE X E (.Call (.Attribute a "index" ap) [b] [] cp) (.int (idxI ns y : Int)) := by
  obtain ⟨ta, a1, a2⟩ := ha
  obtain ⟨tb, b1, b2⟩ := hb
  refine ⟨_, pe_bm PySem.F.plainAttrs_list PySem.F.slot_list_index PySem.F.type_list_index mt_index a1 (pa_cons b1 pa_nil hst) hbase hfew hline hst hplain, fun M L H σ Q I k => a2 M L H σ _ I fun v H1 s1 r1 => ?_⟩
  cases r1 with
  | lst h1 h2 =>
    refine ⟨?_, b2 M L H1 σ _ (I.same s1) fun w H2 s2 r2 => ?_⟩
    · exact .inl ⟨rfl, _, fz_sub.seq h1⟩
    · cases r2
      have e := RA.ofInts h2
      subst e
      obtain ⟨k1, k2⟩ := idxI_ok ns y hy
      refine ⟨_, ns.map .int, .int y, idxI ns y, .int y, rfl, rfl, ?_, rfl, flat_ints ns, ?_, ?_, fun m z hm hz => ?_, k _ H2 (s1.trans s2) (.int _)⟩
      · exact s2.seq (fz_sub.seq h1)
      · rw [List.getElem?_map, k1]; rfl
      · exact beq_self_eq_true _
      · rw [List.getElem?_map] at hz
        cases q : ns[m]? with
        | none => rw [q] at hz; cases hz
        | some u =>
          rw [q] at hz
          cases hz
          exact beq_eq_false_iff_ne.mpr (k2 m u hm q)
/-- e[1], e a new pair of data and an own list -/
theorem dn_ixP {α β : Type} {f : α → PyData} {g : β → PyData} {v : α × List β} (ha : DN X E a (oPL f g v)) (hb : DE X E b (.int 1)) (hx : PlainIx b := by exact fun _ _ => rfl) : DN X E (.Subscript a b pos) (oL g v.2) := by
  obtain ⟨ta, a1, a2⟩ := ha
  obtain ⟨tb, b1, b2⟩ := hb
  refine ⟨_, pe_ix ix_tup a1 b1 hx, fun M L H σ Q I k => a2 M L H σ _ I fun u H1 F s1 nF hF o => b2 M L H1 σ _ (I.same s1) fun w H2 s2 r2 => ?_⟩
  have o2 : Own X.K (F ++ (L ++ M)) H2 u (oPL f g v) F := Own.mono (fz_same s2) _ _ _ (fun a ha => by
    obtain ⟨h1, vs, h2⟩ := Own.sub _ _ _ o a ha
    exact ⟨h1, eq_same s2 h2⟩) o
  obtain ⟨p, vs, G, rfl, hq, ho, hG, nG⟩ := own_kids o2 (s := false) rfl nF
  obtain ⟨w', G', h1, h2, h3, h4⟩ := ho.at (i := 1) (t := oL g v.2) rfl
  cases r2
  refine ⟨p, vs, 1, w', rfl, rfl, hq, h1, k _ H2 G' (s1.trans s2) (h4 nG) (fun a ha => hF a (hG a (h3 a ha))) (Own.mono (fz_mono fun a o n e => ⟨fun z => n ?_, e⟩) _ _ _ (fun a ha => ⟨List.mem_append_left _ ha, rfl⟩) h2)⟩
  rcases List.mem_append.mp z with z | z
  · exact List.mem_append_left _ (hG a (h3 a z))
  · exact List.mem_append_right _ z
end
/-- what follows a call that may raise -/
def exB {α β : Type} (m : Except Nat α) (k : α → Except Nat β) : Except Nat β := match m with
  | .ok v => k v
  | .error n => .error n
theorem exB_ok {α β : Type} (v : α) (k : α → Except Nat β) : exB (.ok v) k = k v := rfl
theorem exB_er {α β : Type} (n : Nat) (k : α → Except Nat β) : exB (.error n : Except Nat α) k = .error n := rfl
theorem eL_frs {xs : List PyData} (h : ∀ x ∈ xs, isFrD x = true) : eL eA xs = eL (eP PyData.int PyData.int) (xs.map asFr) := by
  show PyData.list _ = PyData.list _
  rw [List.map_map]
  exact congrArg PyData.list (List.map_congr_left fun x hx => asFr_eq (h x hx))
/-- an own list or None -/
def oOL {α : Type} (f : α → PyData) : Option (List α) → OT
  | none => .d .none
  | some xs => oL f xs
theorem dat_OL {α : Type} (f : α → PyData) : Dat (oOL f) (eO (eL f)) := fun o => by
  cases o with
  | none => rfl
  | some xs => exact dat_L f xs
theorem oflat_OL {α : Type} {f : α → PyData} (h : ∀ y, flat (f y) = true) (o : Option (List α)) : oflat (oOL f o) = true := by
  cases o with
  | none => rfl
  | some xs => exact oflat_L h xs
theorem oflat_A {xs : List PyData} (h : ∀ y ∈ xs, flat y = true) : oflat (oL eA xs) = true := by
  have : ∀ ys : List PyData, (∀ y ∈ ys, flat y = true) → oflats ((ys.map eA).map .d) = true := fun ys => by
    induction ys with
    | nil => intro _; rfl
    | cons y ys ih =>
      intro h
      show (flat y && oflats ((ys.map eA).map .d)) = true
      rw [h y List.mem_cons_self, ih fun z hz => h z (List.mem_cons_of_mem _ hz)]
      rfl
  exact this xs h
end D

end

section
set_option Elab.async false
set_option linter.all false
set_option autoImplicit false
set_option maxRecDepth 100000
set_option maxHeartbeats 2000000
namespace D
open PySem L2 PySem.Spec PyProof.Rows
/-! ### a >= b of data that are alike -/
def rGeD (K : PySem.W.Frag) : R2 := fun x y H Q => ∃ d e, Dp K H x d ∧ Dp K H y e ∧ PySem.W.alike d e = true ∧ d ≠ .none ∧ min d.depth e.depth ≤ 60 ∧ Q (.bl (!PySem.W.dataLt d e)) H
theorem op_geD {X : Cx} (hu : X.A.units + 64 < cLine) : OpR X (compareOp .GtE) (rGeD X.K) := by
  intro pins s σ H x y v u Q I rx ry h
  obtain ⟨d, e, hd, he, ha, hn, hm, q⟩ := h
  obtain ⟨as, r1⟩ := Dp.reads I d x v hd rx
  obtain ⟨bs, r2⟩ := Dp.reads I e y u he ry
  exact PySem.W.ge_data r1 r2 ha hn (by omega) ⟨.bl _, H, I, rfl, q⟩
section
variable {X : Cx} {W : WX} {E E' : List Sl} {e a b : Expr} {pos : Pos} {x y : PyData} {P : Out → Prop} {rest : List Stmt}
theorem rGeD_ok {M L : List Addr} {H : Hp} {v w : V} {Q : VK} (n1 : noDict x = true) (n2 : noDict y = true) (ha : PySem.W.alike x y = true) (hn : x ≠ .none) (hd : min x.depth y.depth ≤ 60) (r1 : R X.K (fz (L ++ M) H) v x) (r2 : R X.K (fz (L ++ M) H) w y) (k : ∀ u H', Same H H' → R X.K (fz (L ++ M) H') u (.bool (!PySem.W.dataLt x y)) → Q u H') : rGeD X.K v w H Q :=
  ⟨x, y, R.dp _ _ n1 (R.same fz_sub _ _ r1), R.dp _ _ n2 (R.same fz_sub _ _ r2), ha, hn, hd, k _ H (Same.refl H) (.bl _)⟩
theorem noDicts_ints : ∀ (xs : List Int), noDicts (xs.map .int) = true
  | [] => rfl
  | x :: xs => by
    show (true && noDicts (xs.map .int)) = true
    rw [noDicts_ints xs]; rfl
theorem lt_rows (xs ys : List Int) : PySem.W.dataLt (.list (xs.map .int)) (.list (ys.map .int)) = decide (xs < ys) := by
  rw [PySem.W.dataLt_list]
  exact PySem.W.dataLt_ints xs ys
theorem dep_ints (xs : List Int) : (eL PyData.int xs).depth ≤ 1 := by
  show PyData.depthAll (xs.map .int) + 1 ≤ 1
  rw [PySem.W.depth_ints]; exact Nat.le_refl _
theorem al_ints (xs ys : List Int) : PySem.W.alike (eL PyData.int xs) (eL PyData.int ys) = true := by
  show PySem.W.alikeAll (xs.map .int) (ys.map .int) = true
  exact PySem.W.alike_ints xs ys
theorem de_geL {xs ys : List Int} (hu : X.A.units + 64 < cLine) (ha : DE X E a (eL PyData.int xs)) (hb : DE X E b (eL PyData.int ys)) : DE X E (.Compare a [.GtE] [b] pos) (.bool (!decide (xs < ys))) :=
  de_cmp (op_geD hu) ha hb (fun M L H σ v w Q I r1 r2 k => rGeD_ok (x := eL PyData.int xs) (y := eL PyData.int ys) (noDicts_ints xs) (noDicts_ints ys) (al_ints xs ys) (fun z => PyData.noConfusion z) (by have := dep_ints xs; omega) r1 r2 (fun u H' s1 s2 => k u H' s1 (by rw [← lt_rows]; exact s2))) (nomark _)
theorem dt_geL {xs ys : List Int} (hu : X.A.units + 64 < cLine) (ha : DE X E a (eL PyData.int xs)) (hb : DE X E b (eL PyData.int ys)) : DT X E (.Compare a [.GtE] [b] pos) (!decide (xs < ys)) :=
  dt_cmp (op_geD hu) ha hb (fun M L H σ v w Q I r1 r2 k => rGeD_ok (x := eL PyData.int xs) (y := eL PyData.int ys) (noDicts_ints xs) (noDicts_ints ys) (al_ints xs ys) (fun z => PyData.noConfusion z) (by have := dep_ints xs; omega) r1 r2 (fun u H' s1 s2 => k u H' s1 (by rw [← lt_rows]; exact s2))) (nomark _)
/-! ### sorted() of tuples -/
theorem cr_sortT {X : Cx} {δ : Type} {enc : δ → PyData} {rel : Hp → V → δ → Prop} (hu : X.A.units + 64 < cLine) (hd : ∀ d, (enc d).depth ≤ 60) (hal : ∀ b b', PySem.W.alike (enc b) (enc b') = true) (ho : ∀ b, ∃ x r, enc b = .tuple (x :: r))
    (hrd : ∀ pins s σ H v d u, Inv X pins σ H s → rel H v d → RelV v u → ∃ as, Reads s.heap u (enc d) as) : CallR X (.builtin "sorted") (rSortG X.K enc rel) := by
  intro pins s σ H vs us Q I r h
  obtain ⟨a, ps, rfl, hs, hp, q⟩ := h
  obtain ⟨its, rv, hl, hz⟩ := I.list hs
  rw [Vals.ref1 r]
  have e := paired_each rv
  have hlen : ps.length ≤ sizeLine := by rw [List.length_map] at hz; exact hz
  refine PySem.W.sorted_data (enc := fun p : V × δ => enc p.2) hl.isList e (each_imp e fun v p hm hr => hrd pins s σ H p.1 p.2 v I (hp p hm) hr) (PySem.W.AllAlike.of fun b b' => hal _ _) (PySem.W.Sortable.tuples fun b => ho _) hlen (fun b _ => by have := hd b.2; omega) fun out ho eo => ?_
  obtain ⟨ep, he'⟩ := PyProof.Rows.sortedAll_at s.heap its out.toArray
  have ev : PySem.W.dataLe false (fun p : V × δ => enc p.2) = (fun p q => PySem.W.dataLe false enc p.2 q.2) := rfl
  rw [ev] at eo
  exact ⟨.ref _, upd H (s.heap.objs.size + 1) (.lst _), I.laid (t' := s.toks) (fun _ _ => PyProof.Rows.sortedAll_old) (Nat.le_succ _) ⟨by rw [List.length_map, List.length_mergeSort]; exact hlen, out, ep, each_paired eo, he'⟩, rfl, q _ (I.hok.fresh (Nat.le_succ _))⟩
abbrev RowF := List Int × (Int × Int)
abbrev eRF : RowF → PyData := eP (eL PyData.int) (eP PyData.int PyData.int)
theorem RA.pairs {δ : Type} {K : PySem.W.Frag} {H : Hp} {enc : δ → PyData} : ∀ {ds : List δ} {vs : List V}, RA K H vs (ds.map enc) → ∃ ps : List (V × δ), vs = ps.map (·.1) ∧ ds = ps.map (·.2) ∧ ∀ p ∈ ps, R K H p.1 (enc p.2)
  | [], _, h => by cases h; exact ⟨[], rfl, rfl, fun p hp => absurd hp List.not_mem_nil⟩
  | d :: ds, _, h => by
    cases h with
    | @cons v _ vs _ h1 h2 =>
      obtain ⟨ps, rfl, rfl, k⟩ := RA.pairs h2
      exact ⟨(v, d) :: ps, rfl, rfl, fun p hp => by
        rcases List.mem_cons.mp hp with z | z
        · rw [z]; exact h1
        · exact k p z⟩
theorem RA.ofPairs {δ : Type} {K : PySem.W.Frag} {H : Hp} {enc : δ → PyData} : ∀ {ps : List (V × δ)}, (∀ p ∈ ps, R K H p.1 (enc p.2)) → RA K H (ps.map (·.1)) ((ps.map (·.2)).map enc)
  | [], _ => .nil
  | p :: ps, h => .cons (h p List.mem_cons_self) (RA.ofPairs fun q hq => h q (List.mem_cons_of_mem _ hq))
def leRF (p q : RowF) : Bool := PySem.W.dataLe false eRF p q
def sortF (ps : List RowF) : List RowF := ps.mergeSort leRF
theorem dn_sortF {ps : List RowF} {nm : Pos} (hu : X.A.units + 64 < cLine) (ha : DE X E a (eL eRF ps)) (hg : Gl X "sorted") (hm : X.mg "sorted" = none) (hs : starEach [a] X.env = (false, eval a X.env) :: starEach [] X.env := by rfl) : DN X E (.Call (.Name "sorted" nm) [a] [] pos) (oL eRF (sortF ps)) := by
  obtain ⟨ta, a1, a2⟩ := ha
  have hcr : CallR X (.builtin "sorted") (rSortG X.K eRF (fun H v d => Dp X.K H v (eRF d))) := cr_sortT hu (fun d => by
      have := dep_ints d.1
      show max (eL PyData.int d.1).depth (max (max 0 (max 0 0) + 1) 0) + 1 ≤ 60
      omega) (fun b b' => by
      show (PySem.W.alike (eL PyData.int b.1) (eL PyData.int b'.1) && _) = true
      rw [al_ints]; rfl) (fun b => ⟨_, _, rfl⟩) fun pins s σ H v d u I hr hv => Dp.reads I _ _ _ hr hv
  refine ⟨_, pe_callB hcr hg hm (by decide +kernel) (pa_cons a1 pa_nil hs) (he := hs), fun M L H σ Q I k => a2 M L H σ _ I fun v H1 s1 r1 => ?_⟩
  cases r1 with
  | lst h1 h2 =>
    obtain ⟨qs, rfl, rfl, hq⟩ := RA.pairs h2
    refine ⟨_, qs, rfl, fz_sub.seq h1, fun p hp => ?_, fun q hp => ?_⟩
    · refine R.dp _ _ ?_ (R.same fz_sub _ _ (hq p hp))
      show (noDicts (p.2.1.map .int) && _) = true
      rw [noDicts_ints]; rfl
    · have hm2 : ∀ p ∈ qs.mergeSort (fun p q => PySem.W.dataLe false eRF p.2 q.2), R X.K (fz (L ++ M) H1) p.1 (eRF p.2) := fun p hp => hq p ((List.mergeSort_perm qs _).mem_iff.mp hp)
      have e2 : (qs.mergeSort (fun p q => PySem.W.dataLe false eRF p.2 q.2)).map (·.2) = sortF (qs.map (·.2)) := by
        unfold sortF
        exact List.map_mergeSort (r := fun (p q : V × RowF) => PySem.W.dataLe false eRF p.2 q.2) (s := leRF) (f := fun (p : V × RowF) => p.2) fun a _ b _ => rfl
      have h3 := RA.ofPairs hm2
      rw [e2] at h3
      exact own_new I s1 h3 hp (fun v H' F k1 k2 k3 k4 => k v H' F k1 k2 k3 (by unfold oL; first | exact k4 | (rw [List.map_map] at k4; exact k4)))
theorem rf_lt (p q : RowF) : PySem.W.dataLt (eRF p) (eRF q) = decide (p.1 < q.1 ∨ (p.1 = q.1 ∧ (p.2.1 < q.2.1 ∨ (p.2.1 = q.2.1 ∧ p.2.2 < q.2.2)))) := by
  show PySem.W.dataLt (.tuple [eL PyData.int p.1, .tuple [.int p.2.1, .int p.2.2]]) (.tuple [eL PyData.int q.1, .tuple [.int q.2.1, .int q.2.2]]) = _
  rw [PySem.W.dataLt_pair (al_ints p.1 q.1) rfl, (eqE_L eqE_int).eq p.1 q.1, PySem.W.dataLt_ii]
  have e2 : PyData.eqv (.tuple [.int p.2.1, .int p.2.2]) (.tuple [.int q.2.1, .int q.2.2]) = decide (p.2 = q.2) := (eqE_P eqE_int eqE_int).eq p.2 q.2
  have e3 : PySem.W.dataLt (eL PyData.int p.1) (eL PyData.int q.1) = decide (p.1 < q.1) := lt_rows p.1 q.1
  rw [e2, e3]
  by_cases c : p.1 = q.1
  · have hn : ¬ p.1 < q.1 := by rw [c]; exact List.lt_irrefl _
    rw [if_pos (decide_eq_true c)]
    by_cases c2 : p.2 = q.2
    · rw [if_pos (decide_eq_true c2)]
      refine (decide_eq_false ?_).symm
      rintro (z | ⟨_, z | ⟨_, z⟩⟩)
      · exact hn z
      · rw [c2] at z; omega
      · rw [c2] at z; omega
    · rw [if_neg (by simpa using c2), decide_eq_decide]
      exact ⟨fun z => .inr ⟨c, z⟩, fun z => z.resolve_left hn |>.2⟩
  · rw [if_neg (by simpa using c), decide_eq_decide]
    exact ⟨fun z => .inl z, fun z => z.resolve_right fun y => c y.1⟩
theorem li_tri (a b : List Int) : a < b ∨ a = b ∨ b < a := by
  by_cases c : a = b
  · exact .inr (.inl c)
  · rcases List.le_total a b with z | z
    · exact .inl (Std.lt_of_le_of_ne z c)
    · exact .inr (.inr (Std.lt_of_le_of_ne z fun y => c y.symm))
def ltRF (p q : RowF) : Prop := p.1 < q.1 ∨ (p.1 = q.1 ∧ (p.2.1 < q.2.1 ∨ (p.2.1 = q.2.1 ∧ p.2.2 < q.2.2)))
theorem leRF_is (p q : RowF) : leRF p q = true ↔ ¬ ltRF q p := by
  have : leRF p q = !PySem.W.dataLt (eRF q) (eRF p) := rfl
  rw [this, rf_lt, Bool.not_eq_true', decide_eq_false_iff_not]
  exact Iff.rfl
theorem ltRF_tri (p q : RowF) : ltRF p q ∨ p = q ∨ ltRF q p := by
  rcases li_tri p.1 q.1 with z | z | z
  · exact .inl (.inl z)
  · rcases Int.lt_trichotomy p.2.1 q.2.1 with y | y | y
    · exact .inl (.inr ⟨z, .inl y⟩)
    · rcases Int.lt_trichotomy p.2.2 q.2.2 with x | x | x
      · exact .inl (.inr ⟨z, .inr ⟨y, x⟩⟩)
      · exact .inr (.inl (Prod.ext z (Prod.ext y x)))
      · exact .inr (.inr (.inr ⟨z.symm, .inr ⟨y.symm, x⟩⟩))
    · exact .inr (.inr (.inr ⟨z.symm, .inl y⟩))
  · exact .inr (.inr (.inl z))
theorem ltRF_trans {p q r : RowF} (h : ltRF p q) (k : ltRF q r) : ltRF p r := by
  rcases h with h | ⟨h1, h2⟩
  · rcases k with k | ⟨k1, _⟩
    · exact .inl (List.lt_trans h k)
    · exact .inl (k1 ▸ h)
  · rcases k with k | ⟨k1, k2⟩
    · exact .inl (h1 ▸ k)
    · refine .inr ⟨h1.trans k1, ?_⟩
      omega
theorem ltRF_irr (p : RowF) : ¬ ltRF p p := by
  rintro (z | ⟨_, z⟩)
  · exact List.lt_irrefl _ z
  · omega
theorem sortF_le (ps : List RowF) : (sortF ps).Pairwise (fun p q => leRF p q = true) := by
  refine List.pairwise_mergeSort (fun a b c h k => ?_) (fun a b => ?_) ps
  · rw [leRF_is] at h k ⊢
    intro z
    rcases ltRF_tri a b with y | y | y
    · exact k (ltRF_trans z y)
    · subst y; exact k z
    · exact h y
  · rw [Bool.or_eq_true, leRF_is, leRF_is]
    by_cases c : ltRF b a
    · exact .inr fun z => ltRF_irr _ (ltRF_trans z c)
    · exact .inl c
theorem sortF_perm (ps : List RowF) : (sortF ps).Perm ps := List.mergeSort_perm ps _
theorem sortF_strict {ps : List RowF} (h : (ps.map (·.1)).Nodup) : (sortF ps).Pairwise (fun p q => p.1 < q.1) := by
  have h1 := sortF_le ps
  have h2 : ((sortF ps).map (·.1)).Nodup := ((sortF_perm ps).map (·.1)).nodup_iff.mpr h
  have h3 : (sortF ps).Pairwise (fun p q => p.1 ≠ q.1) := by
    rw [List.Nodup, List.pairwise_map] at h2
    exact h2
  refine (h1.and h3).imp fun {p q} h => ?_
  have h4 := (leRF_is p q).mp h.1
  rcases li_tri p.1 q.1 with z | z | z
  · exact z
  · exact absurd z h.2
  · exact absurd (.inl z) h4
def rowsF (xs : List (Option (List Int) × (Int × Int))) : List RowF := xs.map (fun p => (p.1.getD default, p.2))
theorem eL_rows {xs : List (Option (List Int) × (Int × Int))} (h : ∀ p ∈ xs, p.1.isSome = true) : eL (eP (eO (eL PyData.int)) (eP PyData.int PyData.int)) xs = eL eRF (rowsF xs) := by
  show PyData.list _ = PyData.list ((xs.map _).map eRF)
  rw [List.map_map]
  refine congrArg PyData.list (List.map_congr_left fun p hp => ?_)
  have := h p hp
  obtain ⟨o, q⟩ := p
  cases o with
  | none => cases this
  | some l => rfl
/-! ### a new pair of own lists; an own list of fractions lent to what makes one -/
abbrev oPP {α β : Type} (f : α → PyData) (g : β → PyData) (v : List α × List β) : OT := .t [oL f v.1, oL g v.2]
theorem dat_PP {α β : Type} (f : α → PyData) (g : β → PyData) : Dat (oPP f g) (eP (eL f) (eL g)) := fun v => by
  show PyData.tuple [(oL f v.1).dat, (oL g v.2).dat] = _
  rw [dat_oL, dat_oL]
theorem dn_pp {α β : Type} {f : α → PyData} {g : β → PyData} {xs : List α} {ys : List β} {k : Nat} (ha : DN X E a (oL f xs)) (hb : DN X E b (oL g ys)) (hs1 : starEach [a, b] X.env = (false, eval a X.env) :: starEach [b] X.env := by rfl) (hs2 : starEach [b] X.env = (false, eval b X.env) :: starEach [] X.env := by rfl) : DN X E (.Tuple [a, b] k pos) (oPP f g (xs, ys)) :=
  dn_tupO (dna_cons ha (dna_cons hb dna_nil hs2) hs1)
abbrev eFr : Int × Int → PyData := eP PyData.int PyData.int
theorem owns_ra {K : PySem.W.Frag} {Wn : List Addr} {H : Hp} : ∀ {ds : List PyData} {vs : List V} {F : List Addr}, Owns K Wn H vs (ds.map .d) F → RA K (fz Wn H) vs ds ∧ F = []
  | [], _, _, h => by cases h; exact ⟨.nil, rfl⟩
  | d :: ds, _, _, h => by
    cases h with
    | cons h1 h2 =>
      obtain ⟨k1, rfl⟩ := owns_ra h2
      cases h1 with
      | d r => exact ⟨.cons r k1, rfl⟩
theorem ra_owns {K : PySem.W.Frag} {Wn : List Addr} {H : Hp} : ∀ {ds : List PyData} {vs : List V}, RA K (fz Wn H) vs ds → Owns K Wn H vs (ds.map .d) []
  | [], _, h => by cases h; exact .nil
  | d :: ds, _, h => by
    cases h with
    | cons h1 h2 => exact Owns.cons (.d h1) (ra_owns h2)
theorem Slots.unfx {K : PySem.W.Frag} {Wn : List Addr} {H : Hp} {σ : L2.St} {E : List Sl} {F : List Addr} (h : Slots K Wn H σ E F) : ∀ {i : Nat} {v : V} {x : PyData}, E[i]? = some (.fx v x) → Slots K Wn H σ (E.set i (.o (.d x))) F := by
  induction h with
  | nil => intro i v x e; simp at e
  | no hs ih =>
    intro i v x e
    cases i with
    | zero => simp at e
    | succ i => exact .no (ih (by simpa using e))
  | raw hs ih =>
    intro i v x e
    cases i with
    | zero => simp at e
    | succ i => exact .raw (ih (by simpa using e))
  | fx r hs ih =>
    intro i v x e
    cases i with
    | zero =>
      simp at e
      obtain ⟨rfl, rfl⟩ := e
      exact Slots.o (G := []) (.d r) hs
    | succ i => exact .fx r (ih (by simpa using e))
  | o ho hs ih =>
    intro i v x e
    cases i with
    | zero => simp at e
    | succ i => exact .o ho (ih (by simpa using e))
theorem EnvR.lend {K : PySem.W.Frag} {M L : List Addr} {H : Hp} {σ : L2.St} {E : List Sl} {i : Nat} {t : OT} (I : EnvR K M L H σ E) (g : E[i]? = some (.o t)) : ∃ (v : V) (G L' : List Addr), Own K (L ++ M) H v t G ∧ EnvR K M L' H σ (E.set i (.o (.d t.dat))) ∧ (∀ a, a ∈ L' ↔ a ∈ L ∧ a ∉ G) ∧ ∀ a ∈ G, a ∈ L := by
  obtain ⟨⟨F, hs, nF, hL⟩, dom, dj⟩ := I
  obtain ⟨v, G, hv, ho, nG, gF, g2⟩ := hs.lend nF i t g
  let L1 := L.filter fun a => decide (a ∉ G)
  have hL1 : ∀ a, a ∈ L1 ↔ a ∈ L ∧ a ∉ G := fun a => by simp [L1]
  obtain ⟨F', k1, k2, k3⟩ := g2 (L1 ++ M) (fun a o n _ z => n ((List.mem_append.mp z).elim (fun q => List.mem_append_left _ ((hL1 a).mp q).1) fun q => List.mem_append_right _ q))
    (fun a ha z => (List.mem_append.mp z).elim (fun q => ((hL1 a).mp q).2 ha) fun q => dj a (hL a (gF a ha)) q) (fun a ha n => List.mem_append_left _ ((hL1 a).mpr ⟨hL a ha, n⟩))
  have hi : i < E.length := get_lt g
  have k1' := k1.unfx (i := i) (v := v) (x := t.dat) (List.getElem?_set_self hi)
  rw [List.set_set] at k1'
  exact ⟨v, G, L1, ho, ⟨⟨F', k1', k2, fun a ha => (hL1 a).mpr ⟨hL a (k3 a ha).1, (k3 a ha).2⟩⟩, fun a ha => dom a ((List.mem_append.mp ha).elim (fun q => List.mem_append_left _ ((hL1 a).mp q).1) fun q => List.mem_append_right _ q), fun a ha => dj a ((hL1 a).mp ha).1⟩, hL1, fun a ha => hL a (gF a ha)⟩
theorem R.avoid {K : PySem.W.Frag} {W1 W2 : List Addr} {H : Hp} {p : Addr} {vs : List V} {fs : List (Int × Int)} (hp : H p = some (.lst vs)) (hv : RA K (fz W1 H) vs (fs.map eFr)) (hne : fs ≠ []) (h : ∀ a, a ∉ W1 → a ∉ W2 ∨ a = p) {v : V} {r : RowF} (hr : R K (fz W1 H) v (eRF r)) : R K (fz W2 H) v (eRF r) := by
  have tr : ∀ a o, (∀ ws, o ≠ .lst ws) → fz W1 H a = some o → fz W2 H a = some o := fun a o ho q => by
    obtain ⟨n1, q1⟩ := fz_some q
    rcases h a n1 with z | z
    · rw [fz_of z]; exact q1
    · rw [z, hp] at q1; exact absurd (Option.some.inj q1).symm (ho vs)
  have trT : ∀ {a : Addr} {xs : List V}, SqT K (fz W1 H) a xs → SqT K (fz W2 H) a xs := fun {a xs} q => by
    rcases q with (q | ⟨o, q⟩) | q
    · exact .inl (.inl (tr _ _ (fun ws z => HO.noConfusion z) q))
    · exact .inl (.inr ⟨o, tr _ _ (fun ws z => HO.noConfusion z) q⟩)
    · exact .inr q
  have atom : ∀ {v : V} {i : Int}, R K (fz W1 H) v (.int i) → R K (fz W2 H) v (.int i) := fun q => by cases q; exact .int _
  cases hr with
  | tup q1 q2 =>
    refine .tup (trT q1) ?_
    cases q2 with
    | cons a1 a2 =>
      cases a2 with
      | cons b1 b2 =>
        cases b2
        refine .cons ?_ (.cons ?_ .nil)
        · have hints : ∀ {ns : List Int} {us : List V}, RA K (fz W1 H) us (ns.map PyData.int) → RA K (fz W2 H) us (ns.map PyData.int) := fun {ns us} q => by
            have := RA.ofInts q
            rw [this]; exact RA.ints
          cases a1 with
          | @lst a xs _ l1 l2 =>
            refine .lst ?_ (hints l2)
            rcases l1 with (q | ⟨o, q⟩) | q
            · obtain ⟨n1, q3⟩ := fz_some q
              rcases h _ n1 with z | z
              · exact .inl (.inl (by rw [fz_of z]; exact q3))
              · exfalso
                rw [z, hp] at q3
                have e : vs = xs := HO.lst.inj (Option.some.inj q3)
                rw [e, RA.ofInts l2] at hv
                cases fs with
                | nil => exact hne rfl
                | cons f0 fs =>
                  cases hr : r.1 with
                  | nil => rw [hr] at hv; cases hv
                  | cons n0 ns =>
                    rw [hr] at hv
                    cases hv with
                    | cons c1 c2 => cases c1
            · obtain ⟨n1, q3⟩ := fz_some q
              rcases h _ n1 with z | z
              · exact .inl (.inr ⟨o, by rw [fz_of z]; exact q3⟩)
              · rw [z, hp] at q3; cases q3
            · exact .inr q
        · cases b1 with
          | tup l1 l2 =>
            refine .tup (trT l1) ?_
            cases l2 with
            | cons c1 c2 =>
              cases c2 with
              | cons d1 d2 =>
                cases d2
                exact .cons (atom c1) (.cons (atom d1) .nil)
theorem RA.avoid {K : PySem.W.Frag} {W1 W2 : List Addr} {H : Hp} {p : Addr} {vs : List V} {fs : List (Int × Int)} (hp : H p = some (.lst vs)) (hv : RA K (fz W1 H) vs (fs.map eFr)) (hne : fs ≠ []) (h : ∀ a, a ∉ W1 → a ∉ W2 ∨ a = p) : ∀ {rs : List RowF} {us : List V}, RA K (fz W1 H) us (rs.map eRF) → RA K (fz W2 H) us (rs.map eRF)
  | [], _, q => by cases q; exact .nil
  | r :: rs, _, q => by
    cases q with
    | cons q1 q2 => exact .cons (R.avoid hp hv hne h q1) (RA.avoid hp hv hne h q2)
theorem Own.avoid {K : PySem.W.Frag} {W1 W2 : List Addr} {H : Hp} {p : Addr} {vs : List V} {fs : List (Int × Int)} (hp : H p = some (.lst vs)) (hv : RA K (fz W1 H) vs (fs.map eFr)) (hne : fs ≠ []) (h : ∀ a, a ∉ W1 → a ∉ W2 ∨ a = p) (hs : ∀ a ∈ W1, a ∈ W2) {v : V} {rs : List RowF} {F : List Addr} (q : Own K W1 H v (oL eRF rs) F) : Own K W2 H v (oL eRF rs) F := by
  cases q with
  | l q1 q2 q3 =>
    obtain ⟨k1, rfl⟩ := owns_ra q3
    exact .l (hs _ q1) q2 (ra_owns (RA.avoid hp hv hne h k1))
theorem dn_borrowPP {fs : List (Int × Int)} {xs ys : List RowF} (i : Nat) (hg : E[i]? = some (.o (oL eFr fs))) (h : DN X (E.set i (.o (.d (eL eFr fs)))) e (oPP eRF eRF (xs, ys))) (hne : fs ≠ []) : DN X E e (oPP eRF eRF (xs, ys)) := by
  obtain ⟨te, e1, e2⟩ := h
  refine ⟨te, e1, fun M L H σ Q I k => ?_⟩
  obtain ⟨v, G, L', ho, I', hL, hG⟩ := I.lend hg
  rw [dat_oL] at I'
  cases ho with
  | @l p vs _ F hp hl hos =>
    obtain ⟨hra, rfl⟩ := owns_ra hos
    refine e2 M L' H σ Q I' fun w H' F' s nF hF o => k w H' F' s nF hF ?_
    have hpL : p ∈ L := hG p List.mem_cons_self
    have hp' : H' p = some (.lst vs) := s _ _ hl
    have hp0 : p ∉ F' := fun z => by have := hF p z; rw [hl] at this; cases this
    have sub : ∀ a ∈ F' ++ (L' ++ M), a ∈ F' ++ (L ++ M) := fun a ha => by
      rcases List.mem_append.mp ha with z | z
      · exact List.mem_append_left _ z
      · rcases List.mem_append.mp z with z | z
        · exact List.mem_append_right _ (List.mem_append_left _ ((hL a).mp z).1)
        · exact List.mem_append_right _ (List.mem_append_right _ z)
    have back : ∀ a, a ∉ F' ++ (L' ++ M) → a ∉ F' ++ (L ++ M) ∨ a = p := fun a n => by
      by_cases c : a = p
      · exact .inr c
      · left
        intro z
        rcases List.mem_append.mp z with z | z
        · exact n (List.mem_append_left _ z)
        · rcases List.mem_append.mp z with z | z
          · exact n (List.mem_append_right _ (List.mem_append_left _ ((hL a).mpr ⟨z, fun y => c (List.mem_singleton.mp y)⟩)))
          · exact n (List.mem_append_right _ (List.mem_append_right _ z))
    have hra' : RA X.K (fz (F' ++ (L' ++ M)) H') vs (fs.map eFr) := by
      refine RA.same (fz_mono fun a o n q => ⟨fun z => ?_, s a o q⟩) _ _ hra
      rcases List.mem_append.mp z with z | z
      · rw [hF a z] at q; cases q
      · rcases List.mem_append.mp z with z | z
        · exact n (List.mem_append_left _ ((hL a).mp z).1)
        · exact n (List.mem_append_right _ z)
    cases o with
    | @t a ws _ _ o1 o2 =>
      obtain ⟨n1, o3⟩ := fz_some o1
      have n2 : fz (F' ++ (L ++ M)) H' a = some (.tup ws) := by
        rcases back _ n1 with z | z
        · rw [fz_of z]; exact o3
        · rw [z, hp'] at o3; cases o3
      refine .t n2 ?_
      cases o2 with
      | cons c1 c2 =>
        cases c2 with
        | cons d1 d2 =>
          cases d2
          exact .cons (Own.avoid hp' hra' hne back sub c1) (.cons (Own.avoid hp' hra' hne back sub d1) .nil)
end
end D

end

section
set_option Elab.async false
set_option linter.all false
set_option autoImplicit false
set_option maxRecDepth 100000
set_option maxHeartbeats 2000000
namespace D
open PySem L2 PySem.Spec PyProof.Rows
/-! ### a caught exception becomes a value -/
section
variable {X : Cx} {pins : List (Addr × Obj)} {σ : L2.St} {H : Hp} {s : Shared}
theorem inv_track {a C : Addr} {oe : Obj} {d : Option Addr} (I : Inv X ((a, oe) :: pins) σ H s) (hz : Zc (.ref C) d oe) (hv : ∃ vs, oe.data = .fields vs) (n0 : X.s_0.heap.get? a = none) (np : ∀ p ∈ X.pn ++ pins, p.1 ≠ a) :
    Inv X pins σ (upd H a (ExZ C d a)) s := by
  obtain ⟨ha, hn, hL, hF, hc⟩ := I.pin (a, oe) (List.mem_append_right _ List.mem_cons_self)
  obtain ⟨vs, hd⟩ := hv
  have ne : ∀ {b o}, H b = some o → b ≠ a := fun {b o} e z => by rw [z, hn] at e; cases e
  have sub : ∀ p ∈ X.pn ++ pins, p ∈ X.pn ++ (a, oe) :: pins := fun p hp => by
    rcases List.mem_append.mp hp with z | z
    · exact List.mem_append_left _ z
    · exact List.mem_append_right _ (List.mem_cons_of_mem _ z)
  refine ⟨I.ok, I.os, I.bare, ⟨I.base.keep, I.base.slot, fun b o e n hq => ?_, I.base.there, fun b xs e => ?_, fun b o u e => ?_, fun b ps e => ?_⟩, I.loc, I.cell, ?_, fun x c e => ?_, fun p hp => ?_, fun b u e => ?_, I.len⟩
  · rw [upd_ne (fun z => by rw [z, n0] at e; cases e)]; exact I.base.free b o e n hq
  · have q := I.base.tups b xs e
    rw [upd_ne (ne q)]; exact q
  · have q := I.base.frzs b o u e
    rw [upd_ne (ne q)]; exact q
  · obtain ⟨m, q⟩ := I.base.tbls b ps e
    exact ⟨m, by rw [upd_ne (ne q)]; exact q⟩
  · rw [upd_ne (fun z => hL z.symm)]; exact I.free
  · obtain ⟨v, o, h1, h2⟩ := I.cell x c e
    rw [upd_ne (fun z => by rw [z] at h1; rw [ha] at h1; cases h1; exact hc _ h2)]
    exact I.freeC x c e
  · obtain ⟨h1, h2, h3⟩ := I.pin p (sub p hp)
    exact ⟨h1, by rw [upd_ne (np p hp)]; exact h2, h3⟩
  · by_cases hb : b = a
    · subst hb
      rw [upd_same] at e
      cases e
      exact ⟨⟨oe, vs, ha, hz, hd⟩, ⟨oe, ha⟩, fun _ _ ⟨o, v, q, r⟩ k => ⟨o, v, k o q, r⟩⟩
    · rw [upd_ne hb] at e
      exact (I.hok b u e).stay (fun _ _ _ q => q) (fun c q => by rw [upd_ne (ne q)]; exact q) fun c xs q => by rw [upd_ne (ne q)]; exact q
end
/-- what the clause wishes: the suite goes on alone; then the exception is a value of ours -/
def wVl (K : PySem.W.Frag) (c : Value) (i : Nat) (ts : Addr → Value → Option Addr → TS) (Wout : WX) (D : Ends) : WX := fun cls d σ H =>
  ∃ b, PySem.W.exmOne K cls c = some b ∧ (b = true → ∃ C, cls = .ref C ∧ ∀ a, H a = none → ts a cls d { nx := fun σ' H' => H' a = none → D.nx (σ'.set i none) (upd H' a (ExZ C d a)), rt := fun _ _ => False, bk := fun _ _ => False, ct := fun _ _ => False } (σ.set i (some (.ref a))) H) ∧
    (b = false → Wout cls d σ H)
section
variable {X : Cx} {x n : Str} {c : Value} {i : Nat} {body suite : List Stmt} {b₀ : Stmt} {np pos pos' : Pos} {tb : WX → TS} {ts : Addr → Value → Option Addr → TS} {Wout : WX}
theorem ps_try_val (hs : X.stack = X.env :: X.outer) (hf : X.env.frame = some X.env.locals) (hN : X.N.Nodup) (hi : X.N[i]? = some n) (hln : X.env.kindOf n = some .local) (hc : Names X x c) (tk : Takes X Wout) (hex : X.ex = [])
    (hb : ∀ (W : WX) (pn : List (Addr × Obj)) (xe : Value → Shared → Prop), Takes (X.tr pn xe) W → PassesOwn (model X.prog X.w) X.A X.env xe → PSs (X.tr pn xe) body (tb W))
    (hsu : ∀ (a : Addr) (oe : Obj) (cls : Value) (d : Option Addr) (pn : List (Addr × Obj)), Zc cls d oe → (∃ vs, oe.data = .fields vs) → PSs (X.suite a ((a, oe) :: pn)) (b₀ :: suite) (ts a cls d)) :
    PS X (.Try body [.ExceptHandler (some (.Name x np)) (some n) (b₀ :: suite) pos'] [] [] pos) (fun D σ H => tb (wVl X.K c i ts Wout D) D σ H) := by
  refine ⟨fun pins s σ H D I h => ?_⟩
  have ok := I.ok
  have hfr : X.A.frames = some (X.env :: X.outer) := by rw [ok.frames, hs]
  refine wpAny_Try_except ?_
  refine wpAny_mono ((hb (wVl X.K c i ts Wout D) (X.pn ++ pins) (fun e s₁ => wpAny (model X.prog X.w) X.A (noteFrame e X.env) (fun _ s₂ => wpAny (model X.prog X.w) X.A (setFlight e none) (fun _ s₃ =>
    wpAny (model X.prog X.w) X.A (handleBy e X.env [.ExceptHandler (some (.Name x np)) (some n) (b₀ :: suite) pos']) (SP X pins D) X.xe s₃) X.xe s₂) X.xe s₁) (fun u s' xx => ?_) PassesOwn.looking).run [] s σ H D (I.toTry _) h) (fun f s1 hsp => ?_) (fun e s1 he => he)
  · obtain ⟨a, B, sI, pins', σ', H', cls, d, rfl, J', nb, up, sky, na, os, ag, b, hb1, hyes, hno⟩ := xx
    have J : Inv X pins σ' H' sI := J'.ofTry ok
    have sky' : Sky B (X.env :: X.outer) a (Zc cls d) X.env.locals s'.heap := by rw [← hs]; exact sky
    show wpAny (model X.prog X.w) X.A (noteFrame (.ref a) X.env) _ _ _
    refine Sky.land Zc.steady hfr hf sky' fun h3 fl3 up3 => ?_
    have J3 : Inv X pins σ' H' { s' with heap := h3 } := J.landed nb fl3.1 (up.trans up3) os ag
    obtain ⟨oe3, vs3, he3, hz3, hd3⟩ := fl3.there
    have nfr : a ∉ frs (X.env :: X.outer) := fun hm => by
      obtain ⟨_, o', e', hnf⟩ := fl3.2.2.1.mem hm
      rw [he3] at e'; cases e'
      exact hnf _ hd3
    have nL : a ≠ X.env.locals := fun z => nfr (List.mem_filterMap.mpr ⟨X.env, List.mem_cons_self, by rw [hf, z]⟩)
    have frS : ∀ b, b ∈ frs X.stack → b = X.env.locals ∨ b ∈ X.fs := fun b hm => by
      rw [hs] at hm
      obtain ⟨e, he, q⟩ := List.mem_filterMap.mp hm
      rcases List.mem_cons.mp he with z | z
      · rw [z, hf] at q; exact .inl (Option.some.inj q).symm
      · exact .inr (List.mem_filterMap.mpr ⟨e, z, q⟩)
    have nF : a ∉ X.fs := fun hm => by
      obtain ⟨e, he, q⟩ := List.mem_filterMap.mp hm
      exact nfr (List.mem_filterMap.mpr ⟨e, List.mem_cons_of_mem _ he, q⟩)
    have Bn : B.get? a = none := fl3.2.1
    have n0 : X.s_0.heap.get? a = none := by
      cases e : X.s_0.heap.get? a with
      | none => rfl
      | some o =>
        obtain ⟨o', e'⟩ := J.base.there a o e (by rw [hex]; exact fun z => nomatch z)
        have z := nb a o' e' (fun hm => (frS a hm).elim nL nF)
        rw [Bn] at z; cases z
    have npp : ∀ p ∈ X.pn ++ pins, p.1 ≠ a := fun p hp z => by
      obtain ⟨h1, h2, h3, h4, h5⟩ := J.pin p hp
      have y := nb p.1 p.2 h1 (fun hm => (frS _ hm).elim h3 h4)
      rw [z, Bn] at y; cases y
    have S3 := J3.suite he3 hd3 na nL nF
    refine wpAny_handleBy_cons (codeAny_handlers_test ?_) (by intro q; cases q)
    have LT : PySem.W.Looks (model X.prog X.w) h3 (typeOf (.ref a)) cls := fun A Q E s k q => wpAny_typeOf_ref (k _ _ he3) (by rw [hz3.1]; exact q)
    have LM := PySem.W.exm_one (M := model X.prog X.w) (J3.kIn) LT hb1
    have test : ∀ {Q : Value → Shared → Prop} {E : Value → Shared → Prop}, Q c { s' with heap := h3 } → wpAny (model X.prog X.w) (X.A.mark (some (.ref a))) (eval (.Name x np) X.env) Q E { s' with heap := h3 } := fun {Q E} q => by
      obtain ⟨hg, hdbg, hm | ⟨hm, hv, hnn⟩⟩ := hc
      · exact ld_glob (X := X.suite a ((a, oe3) :: (X.pn ++ pins))) S3 hg hm q hdbg
      · exact ld_blt (X := X.suite a ((a, oe3) :: (X.pn ++ pins))) S3 hg hm hv q hnn hdbg
    refine test (LM.here ?_)
    cases b with
    | true =>
      refine codeAny_handlers_suite_as ?_
      refine HandSPX.lands_againZ fl3 fun h4 fl4 up4 => ?_
      have J4 : Inv X pins σ' H' { s' with heap := h4 } := J.landed nb fl4.1 ((up.trans up3).trans up4) os ag
      obtain ⟨oe4, vs4, he4, hz4, hd4⟩ := fl4.there
      obtain ⟨C, rfl, hy⟩ := hyes rfl
      have S4 := J4.suite he4 hd4 na nL nF
      refine store_ok (X := X.suite a ((a, oe4) :: (X.pn ++ pins))) (v := .ref a) S4 hN hi (.inl hln) rfl (fun s5 S5 => ?_) (.inr hln)
      refine wpAny_mono ((hsu a oe4 (.ref C) d (X.pn ++ pins) hz4 ⟨_, hd4⟩).run [] s5 _ H' _ S5 (hy a na)) (fun f s6 hsp => ?_) (fun _ _ z => False.elim z)
      cases f with
      | next =>
        obtain ⟨σ6, H6, S6, q6⟩ := hsp
        have P6 := S6.pin (a, oe4) (List.mem_append_left _ List.mem_cons_self)
        have K6 : Inv X ((a, oe4) :: pins) σ6 H6 s6 := ⟨ok, S6.os, S6.bare, S6.base, S6.loc, S6.cell, S6.free, S6.freeC, fun p hp => S6.pin p (List.mem_append_left _ (by
          rcases List.mem_append.mp hp with z | z
          · exact List.mem_cons_of_mem _ (List.mem_append_left _ z)
          · rcases List.mem_cons.mp z with y | y
            · rw [y]; exact List.mem_cons_self
            · exact List.mem_cons_of_mem _ (List.mem_append_right _ y))), S6.hok, S6.len⟩
        exact gone_ok K6 hN hi hln fun s7 J7 => ⟨_, _, inv_track J7 hz4 ⟨_, hd4⟩ n0 npp, q6 P6.2.1⟩
      | brk => obtain ⟨σ6, H6, S6, q6⟩ := hsp; exact q6.elim
      | cont => obtain ⟨σ6, H6, S6, q6⟩ := hsp; exact q6.elim
      | ret u => obtain ⟨v6, σ6, H6, S6, r6, q6⟩ := hsp; exact q6.elim
    | false =>
      show wpAny _ X.A (handleBy (.ref a) X.env []) _ _ _
      refine wpAny_handleBy_nil ?_
      obtain ⟨k1, k2, k3, oe, vs, T, oT, ts', he, hz, hd, h1, hr⟩ := id fl3
      unfold PySem.passOn
      refine wpAny_bind (wpAny_field he hd h1 ?_)
      rw [if_neg (show ¬ ((Value.ref T == Value.none) = true) from by simp)]
      have fin : wpAny (model X.prog X.w) X.A (setFlight (.ref a) X.env.frame) (fun _ s4 => wpAny (model X.prog X.w) X.A (throw (.ref a) : Sem Flow) (SP X pins D) X.xe s4) X.xe { s' with heap := h3 } := by
        rw [hf]
        refine HandSPX.setFlight_upZ fl3 fun h4 hh4 up4 => wpAny_throw (tk _ _ ?_)
        exact ⟨a, B, sI, pins, σ', H', cls, d, rfl, J, nb, (up.trans up3).trans up4, .inr (.inr (by rw [hs]; exact hh4)), na, os, ag, hno rfl⟩
      first
        | exact wpAny_bind (wpAny_pure (wpAny_bind fin))
        | exact wpAny_bind fin
  · cases f with
    | next => obtain ⟨σ', H', J', q⟩ := hsp; exact wpAny_execs_nil ⟨σ', H', J'.ofTry ok, q⟩
    | brk => obtain ⟨σ', H', J', q⟩ := hsp; exact ⟨σ', H', J'.ofTry ok, q⟩
    | cont => obtain ⟨σ', H', J', q⟩ := hsp; exact ⟨σ', H', J'.ofTry ok, q⟩
    | ret u => obtain ⟨v, σ', H', J', r, q⟩ := hsp; exact ⟨v, σ', H', J'.ofTry ok, r, q⟩
end
/-! ### exceptions as data: a code, a number, a list -/
structure Er where
  c : Nat
  n : Int
  r : List Int
instance : Inhabited Er := ⟨⟨0, 0, []⟩⟩
def erD (e : Er) : PyData := if e.c = 4 then .tuple [.int e.n, .list (e.r.map .int)] else if e.c = 9 then .int e.n else .bool true
abbrev eX (A : Nat → Addr) (e : Er) : PyData := .dict [(.int (A e.c : Int), erD e)]
def flE (e : Er) : Option (List (Str × OT)) := if e.c = 4 then some [("reached", .d (.list (e.r.map .int))), ("wish", .d (.int e.n))] else if e.c = 9 then some [("part", .d (.int e.n))] else none
abbrev er (c : Nat) : Er := ⟨c, 0, []⟩
/-- what a def that may raise comes to -/
def resE {α : Type} (A : Nat → Addr) (f : α → PyData) : Except Er α → Res
  | .ok v => .ok (.d (f v))
  | .error e => .ex (A e.c) (flE e)
def resEO {α : Type} (A : Nat → Addr) (o : α → OT) : Except Er α → Res
  | .ok v => .ok (o v)
  | .error e => .ex (A e.c) (flE e)
def okvE {α : Type} [Inhabited α] : Except Er α → α
  | .ok v => v
  | .error _ => default
def exE {α β : Type} (g : Except Er α) (k : α → Except Er β) : Except Er β := match g with
  | .ok v => k v
  | .error e => .error e
theorem exE_er {α β : Type} {e : Er} {k : α → Except Er β} : exE (.error e) k = .error e := rfl
theorem exE_ok {α β : Type} {v : α} {k : α → Except Er β} : exE (.ok v) k = k v := rfl
theorem resE_okv {α : Type} [Inhabited α] {A : Nat → Addr} {f : α → PyData} {m : Except Er α} (h : m = .ok (okvE m)) : Res.ok (.d (f (okvE m))) = resE A f m := by
  generalize okvE m = v at *
  subst h
  rfl
theorem resEO_okv {α : Type} [Inhabited α] {A : Nat → Addr} {o : α → OT} {m : Except Er α} (h : m = .ok (okvE m)) : Res.ok (o (okvE m)) = resEO A o m := by
  generalize okvE m = v at *
  subst h
  rfl
theorem flE_n {e : Er} (h4 : e.c ≠ 4) (h9 : e.c ≠ 9) : flE e = none := by unfold flE; rw [if_neg h4, if_neg h9]
theorem erD_n {e : Er} (h4 : e.c ≠ 4) (h9 : e.c ≠ 9) : erD e = .bool true := by unfold erD; rw [if_neg h4, if_neg h9]
theorem R.excOf {K : PySem.W.Frag} {H : Hp} {v : V} {A : Nat → Addr} {e : Er} (r : R K H v (eX A e)) : ∃ a d, v = .ref a ∧ H a = some (ExZ (A e.c) d a) ∧ ExcK K (A e.c) ∧ FdR K H d (erD e) := by
  obtain ⟨x, hd⟩ : ∃ x, x = eX A e := ⟨_, rfl⟩
  rw [← hd] at r
  have inj : ∀ {i j : Int} {y z : PyData}, PyData.dict [(.int i, y)] = .dict [(.int j, z)] → i = j ∧ y = z := fun h => by
    simp only [PyData.dict.injEq, List.cons.injEq, Prod.mk.injEq, PyData.int.injEq, and_true] at h
    exact h
  cases r with
  | exc h hc hf =>
    obtain ⟨e1, e2⟩ := inj hd
    have e3 := Int.ofNat.inj e1
    subst e3 e2
    exact ⟨_, _, rfl, h, hc, hf⟩
  | ins h hc =>
    exfalso
    have e2 := (inj hd).2
    unfold erD at e2
    split at e2
    · cases e2
    · split at e2 <;> cases e2
  | _ => cases hd
/-- the fields that an exception's dict holds are those of its data -/
theorem fld_data {K : PySem.W.Frag} {W : List Addr} {H : Hp} {e : Er} {d : Addr} {gs : List (Str × V)} {fs : List (Str × OT)} {F : List Addr} (hfs : flE e = some fs) (h : FldR K W H gs fs F) (hd : (fz W H) d = some (.xd gs)) : F = [] ∧ FdR K (fz W H) (some d) (erD e) := by
  unfold flE at hfs
  by_cases h4 : e.c = 4
  · rw [if_pos h4] at hfs
    cases hfs
    unfold erD
    rw [if_pos h4]
    cases h with
    | cons h1 h2 =>
      cases h2 with
      | cons h3 h5 =>
        cases h5
        cases h1 with
        | d r1 =>
          cases h3 with
          | d r3 =>
            cases r3
            cases r1 with
            | lst s1 s2 =>
              have := RA.ofInts s2
              subst this
              exact ⟨rfl, .w hd s1⟩
  · rw [if_neg h4] at hfs
    by_cases h9 : e.c = 9
    · rw [if_pos h9] at hfs
      cases hfs
      unfold erD
      rw [if_neg h4, if_pos h9]
      cases h with
      | cons h1 h2 =>
        cases h2
        cases h1 with
        | d r1 =>
          cases r1
          exact ⟨rfl, .p hd⟩
    · rw [if_neg h9] at hfs
      cases hfs
section
variable {X : Cx} {W : WX} {A : Nat → Addr} {rest : List Stmt} {E E' : List Sl} {P : Out → Prop} {e a b c : Expr} {es : List Expr} {xs : List PyData} {pos : Pos} {er : Er}
/-- try: body, except nc as nn: m = nn -/
theorem ds_tryV {body : List Stmt} {nc nn m : Str} {cls : Value} {i j : Nat} {np p1 p2 pos2 pos' : Pos} {B : Out → Prop} (T : CxF X W) (N : LocN X i nn) (Nj : LocN X j m) (hs : X.stack = X.env :: X.outer) (hf : X.env.frame = some X.env.locals) (hln : X.env.kindOf nn = some .local) (hc : Names X nc cls) (hex : X.ex = [])
    (hij : i ≠ j) (hi : i < E.length) (hj : j < E.length) (hv : ∀ a oe pn pos, PE (X.suite a ((a, oe) :: pn)) (.Name nn pos) (tVar i)) (hsw : ∀ a oe pn, swapsWith (.Name nn p1) (some (.Name m p2)) pos2.line (X.suite a ((a, oe) :: pn)).env = pure false)
    (hb : ∀ (W' : WX) (pn : List (Addr × Obj)) (xe : Value → Shared → Prop), CxF (X.tr pn xe) W' → DSs (X.tr pn xe) W' body E B)
    (hB : ∀ o, B o → match o with
      | .nx E1 => P (.nx E1)
      | .ex C fs E1 => ∃ er : Er, C = A er.c ∧ fs = flE er ∧ E1.length = E.length ∧ PySem.W.exmOne X.K (.ref C) cls = some true ∧ ExcK X.K C ∧ P (.nx ((E1.set j (.o (.d (eX A er)))).set i .no))
      | _ => False) :
    DS X W (.Try body [.ExceptHandler (some (.Name nc np)) (some nn) [.Assign [.Name m p2] (.Name nn p1) pos2] pos'] [] [] pos) E P := by
  refine ⟨fun M L H σ D I k => ⟨_, ps_try_val (i := i) (tb := fun W' D σ H => ∀ pn xe, CxF (X.tr pn xe) W' → tAll (X.tr pn xe) body D σ H) (ts := fun a cls d D σ H => ∀ (oe : Obj) (pn : List (Addr × Obj)), Zc cls d oe → (∃ vs, oe.data = .fields vs) → tAll (X.suite a ((a, oe) :: pn)) [.Assign [.Name m p2] (.Name nn p1) pos2] D σ H)
    hs hf N.nd N.ix hln hc T.take hex (fun W' pn xe tk pass => ⟨fun pins s σ H D I h => ?_⟩) (fun a oe cls d pn hz hv => ⟨fun pins s σ H D I h => ?_⟩), ?_⟩⟩
  · obtain ⟨t, h1, h2⟩ := h pn xe ⟨T.calm, pass, tk⟩
    exact h1.run pins s σ H D I h2
  · obtain ⟨t, h1, h2⟩ := h oe pn hz hv
    exact h1.run pins s σ H D I h2
  · intro pn xe T'
    have key : ∀ {a : Addr} {C : Addr} {d : Option Addr} {E1 : List Sl} {L1 : List Addr} {H1 : Hp} {σ1 : L2.St} {er : Er}, C = A er.c → E1.length = E.length → ExcK X.K C → P (.nx ((E1.set j (.o (.d (eX A er)))).set i .no)) → Step L H L1 H1 → EnvR X.K M L1 H1 σ1 E1 → FdR X.K (fz (L1 ++ M) H1) d (erD er) → H1 a = none →
        ∀ (oe : Obj) (pn : List (Addr × Obj)), Zc (.ref C) d oe → (∃ vs, oe.data = .fields vs) → tAll (X.suite a ((a, oe) :: pn)) [.Assign [.Name m p2] (.Name nn p1) pos2] { nx := fun σ' H' => H' a = none → D.nx (σ'.set i none) (upd H' a (ExZ C d a)), rt := fun _ _ => False, bk := fun _ _ => False, ct := fun _ _ => False } (σ1.set i (some (.ref a))) H1 := by
      intro a C d E1 L1 H1 σ1 er eC hlen hk hP s J hfd na oe pn hz hvs
      subst eC
      refine ⟨_, pss_cons (ps_set (X := X.suite a ((a, oe) :: pn)) (x := m) (i := j) Nj.nd Nj.ix Nj.loc (hv a oe pn p1) (hsw a oe pn) Nj.fn) pss_nil, ?_⟩
      obtain ⟨⟨F0, hsl, _⟩, _⟩ := id J
      have hl : σ1.length = E1.length := hsl.length
      refine ⟨.ref a, List.getElem?_set_self (by omega), fun na' => ?_⟩
      have s1 : Same H1 (upd H1 a (ExZ (A er.c) d a)) := same_new na
      have nW : a ∉ L1 ++ M := fun z => J.dom a z na
      have J1 := (J.same s1).setD (i := j) (v := .ref a) (x := eX A er) (by omega) (.exc (by rw [fz_of nW]; exact upd_same) hk (hfd.same (fz_same s1)))
      have J2 := J1.setNo (i := i) (o := none)
      have e1 : ((σ1.set i (some (V.ref a))).set j (some (.ref a))).set i none = (σ1.set j (some (.ref a))).set i none := by
        rw [List.set_comm _ _ hij, List.set_set]
      rw [e1]
      exact k.nx _ L1 _ _ hP (s.trans (Step.same s1)) J2
    refine (hb _ pn xe T').run M L H σ _ I ⟨fun E' L' H' σ' q s J => k.nx E' L' H' σ' (hB _ q) s J, fun E' L' H' σ' q s J => (hB _ q).elim, fun E' L' H' σ' q s J => (hB _ q).elim, fun t v L' H' F q s d hF nF o => (hB _ q).elim, fun C E' L' H' σ' q s J => ?_, fun C fs E' L' H' σ' d gs F q s J hd hdL hdx nF hF fr => ?_⟩
    · obtain ⟨er, eC, hfs, hlen, hx, hk, hP⟩ := hB _ q
      refine ⟨true, hx, fun _ => ⟨C, rfl, fun a na => key eC hlen hk hP s J ?_ na⟩, fun z => by cases z⟩
      have h4 : er.c ≠ 4 := fun z => by unfold flE at hfs; rw [if_pos z] at hfs; cases hfs
      have h9 : er.c ≠ 9 := fun z => by unfold flE at hfs; rw [if_neg h4, if_pos z] at hfs; cases hfs
      rw [erD_n h4 h9]
      exact .n
    · obtain ⟨er, eC, hfs, hlen, hx, hk, hP⟩ := hB _ q
      have hdM : d ∉ M := fun z => I.dom d (List.mem_append_right _ z) hd
      have hdF : d ∉ F := fun z => (hF d z).2.2 rfl
      obtain ⟨rfl, hfd⟩ := fld_data (d := d) hfs.symm fr (by
        rw [fz_of (fun z => by
          rcases List.mem_append.mp z with z | z
          · exact hdF z
          · rcases List.mem_append.mp z with z | z
            · exact hdL z
            · exact hdM z)]
        exact hdx)
      exact ⟨true, hx, fun _ => ⟨C, rfl, fun a na => key eC hlen hk hP s J hfd na⟩, fun z => by cases z⟩
/-- a call that raises, as a statement -/
theorem ds_exprE {f : Str} {nm : Pos} {k : Nat} {Rf : List PyData → Res → Prop} {C : Addr} {fs : Option (List (Str × OT))} (T : CxF X W) (F : FnD X f k Rf) (hg : Gl X f) (ha : DA X E (e :: es) xs) (h : Rf xs (.ex C fs)) (hfs : ∃ er : Er, fs = flE er) (hP : P (.ex C fs E)) (hk : xs.length = k := by rfl) (hdb : (f == ("__debug__" : Str)) = false := by decide)
    (he : starEach (e :: es) X.env = (false, eval e X.env) :: starEach es X.env := by rfl) {cp : Pos} (hpl : (backTo cp (starEach es X.env)).any (·.1) = false := by rfl) (hs : swapsWith (.Call (.Name f nm) (e :: es) [] cp) none pos.line X.env = pure false := by rfl) : DSs X W (.Expr (.Call (.Name f nm) (e :: es) [] cp) pos :: rest) E P := by
  obtain ⟨g, fd, ps, k, ok, hr, hm, hkp, hb⟩ := F.ex
  obtain ⟨ta, a1, a2⟩ := ha
  refine ⟨fun M L H σ D I kk => ⟨_, pss_cons (ps_expr (L2.pe_callS ok hr hg hm hkp hb (fun σ => passAt T.take σ) a1 hdb he hpl) hs) pss_all, a2 M L H σ _ I fun vs H1 s1 r1 => ?_⟩⟩
  refine ⟨L ++ M, xs, .ex C fs, hk, (I.same s1).dom, r1, h, ?_⟩
  cases fs with
  | none => exact fun H' s2 => kk.ex C E L H' σ hP (Step.same (s1.trans s2)) (I.same (s1.trans s2))
  | some fs =>
    intro d gs H' F s2 hd hdF hdx nF hF fr
    obtain ⟨er, hfs⟩ := hfs
    have nd : H d = none := by
      cases q : H d with
      | none => rfl
      | some o => rw [s1 _ _ q] at hd; cases hd
    have hF0 : F = [] := by
      unfold flE at hfs
      split at hfs
      · cases hfs; cases fr with
        | cons h1 h2 => cases h1; cases h2 with
          | cons h3 h4 => cases h3; cases h4; rfl
      · split at hfs
        · cases hfs; cases fr with
          | cons h1 h2 => cases h1; cases h2; rfl
        · cases hfs
    subst hF0
    exact kk.exd C fs E L H' σ d gs [] hP (Step.same (s1.trans s2)) (I.same (s1.trans s2)) nd (fun z => I.dom d (List.mem_append_left _ z) nd) hdx List.nodup_nil (fun a ha => by cases ha) fr
end
end D
namespace D
open PySem L2 PySem.Spec PyProof.Rows
/-! ### an own exception with fields is made -/
/-- a class whose __init__ is asked for by the class's name -/
structure RinC (K : PySem.W.Frag) (R : Addr) : Prop where
  ga : PySem.W.specialIn K (.ref R) "__getattribute__" = some (some (.builtin "type.__getattribute__"))
  rd : PySem.W.readsIn K R (.type "type") = true
  fi : PySem.W.findCls K (.ref R) (.type "type") "__init__" = some (.val (.builtin "ValueError.__init__"))
theorem pe_rinit {X : Cx} {x : Str} {R : Addr} {e : Expr} {es : List Expr} {ta : TA} {p1 p2 pos : Pos} {pl : Sem Bool} (F : RinC X.K R) (hg : Gl X x) (hm : X.mg x = some (.ref R)) (ha : PA X (e :: es) ta)
    (hc : eval (.Call (.Attribute (.Name x p1) "__init__" p2) (e :: es) [] pos) X.env = (do
      let ov ← eval (.Name x p1) X.env
      standAt p2.atName
      let (f, first) ← holding [ov] (getMethod ov "__init__" pl)
      callWith pos f first (backTo pos (starEach (e :: es) X.env)) (backToKw pos (keywordEach [] X.env))) := by rfl) (hdb : (x == ("__debug__" : Str)) = false := by decide)
    (he : starEach (e :: es) X.env = (false, eval e X.env) :: starEach es X.env := by rfl) (hpl : (backTo pos (starEach es X.env)).any (·.1) = false := by rfl) :
    PE X (.Call (.Attribute (.Name x p1) "__init__" p2) (e :: es) [] pos) (tVeI X.K ta) := by
  refine ⟨fun pins s σ H Q I h => ?_⟩
  refine PySem.W.methodCall_KW (ld_glob I hg hm ?_ hdb) hc
  refine PySem.W.method_cls I.kIn F.ga (PySem.W.cls_value I.kIn F.rd F.fi (by decide +kernel) ?_)
  show wpAny _ _ (callWith pos (Value.builtin "ValueError.__init__") [] (backTo pos (starEach (e :: es) X.env)) []) _ _ _
  refine callWith_method1 (thn (ha.run pos pins _ σ H _ (I.tok _) h) fun us s1 hh => ?_) he hpl
  obtain ⟨vs, H1, I1, r1, a, C, ws, ev, hl, T, ea, q⟩ := hh
  subst ev
  cases r1 with
  | @cons _ u0 _ ur ra rw' =>
    cases (show u0 = Value.ref a from ra)
    have hlen : ur.length ≤ sizeLine := by
      rw [← Paired.length rw', sizeLine_eq]
      omega
    exact oinit_ok T I1 ea hlen fun s' J => ⟨.non, H1, J, rfl, q⟩
/-- what __init__(self, wish, reached) promises -/
def spNW (K : PySem.W.Frag) (C : Addr) : Sp := fun vs H Q _ => ∃ a v1 v2, vs = [.ref a, v1, v2] ∧ OexC K C ∧ H a = some (exo a C none) ∧ ∀ dx, H dx = none → dx ≠ a → Q .non (upd (upd (upd H dx (exd dx [("wish", v1)])) a (exo a C (some dx))) dx (exd dx [("reached", v2), ("wish", v1)]))
/-- what __init__(self, part) promises -/
def spNT (K : PySem.W.Frag) (C : Addr) : Sp := fun vs H Q _ => ∃ a v1, vs = [.ref a, v1] ∧ OexC K C ∧ H a = some (exo a C none) ∧ ∀ dx, H dx = none → dx ≠ a → Q .non (upd (upd H dx (exd dx [("part", v1)])) a (exo a C (some dx)))
/-- an own exception class with its own __init__ -/
structure IniC (P : Program) (w : World) (K : PySem.W.Frag) (mg : Str → Option Value) (base : Heap) (x : Str) (C : Addr) (sp : Sp) : Prop where
  ex : ∃ (fI : Addr) (fd : FuncData) (ps : List Str), OexC K C ∧ mg x = some (.ref C) ∧ PySem.W.findIn K (.ref C) "__init__" = some (some (.ref fI)) ∧ PySem.W.typeIn K (.ref fI) = some (.type "function") ∧ FnOk P w K mg base (L2.CX P w) 1 fI fd ps sp ∧ Binds K fd ps []
theorem del_upd {H : Hp} {a : Addr} {o : HO} (h : H a = none) : del (upd H a o) a = H := by
  funext b
  by_cases e : b = a
  · rw [e, del_same, h]
  · rw [del_ne e, upd_ne e]
theorem upd_swap {H : Hp} {a b : Addr} {o u : HO} (h : a ≠ b) : upd (upd H a o) b u = upd (upd H b u) a o := by
  funext c
  by_cases e1 : c = a
  · rw [e1, upd_ne h, upd_same, upd_same]
  · by_cases e2 : c = b
    · rw [e2, upd_same, upd_ne (fun z => h z.symm), upd_same]
    · rw [upd_ne e2, upd_ne e1, upd_ne e1, upd_ne e2]
section
variable {X : Cx} {W : WX} {A : Nat → Addr} {rest : List Stmt} {E E' : List Sl} {P : Out → Prop} {e a b c : Expr} {es : List Expr} {xs : List PyData} {pos : Pos}
theorem ds_raiseW {x : Str} {C : Addr} {n : Int} {ns : List Int} {p1 p3 : Pos} (T : CxF X W) (O : IniC X.prog X.w X.K X.mg X.base x C (spNW X.K C)) (hr : Room 2 X.A) (hg : Gl X x) (ha : DA X E (a :: b :: []) [.int n, .list (ns.map .int)]) (h : P (.ex C (some [("reached", .d (.list (ns.map .int))), ("wish", .d (.int n))]) E))
    (hdb : (x == ("__debug__" : Str)) = false := by decide) (he : starEach (a :: b :: []) X.env = (false, eval a X.env) :: starEach [b] X.env := by rfl) (hpl : (backTo p3 (starEach [b] X.env)).any (·.1) = false := by rfl) :
    DSs X W (.Raise (some (.Call (.Name x p1) [a, b] [] p3)) none pos :: rest) E P := by
  obtain ⟨fI, fd, ps, hO, hm, iC, tI, ok, hb⟩ := O.ex
  obtain ⟨ta, a1, a2⟩ := ha
  refine ⟨fun M L H σ D I k => ⟨_, pss_cons (L2.ps_raise T.calm T.take (pmk_oex hO iC tI ok hr hb .nil (passes_call T.take (fun _ _ _ _ z => z.elim)) hg hm a1 hdb he hpl)) pss_all, a2 M L H σ _ I fun vs H1 s1 r1 => ?_⟩⟩
  cases r1 with
  | @cons v1 _ _ _ q1 r2 =>
    cases r2 with
    | @cons v2 _ _ _ q2 r3 =>
      cases r3
      refine ⟨(by show 2 ≤ 1000; decide), fun a na => ?_⟩
      refine ⟨a, v1, v2, rfl, hO, upd_same, fun dx nd ne => ?_⟩
      have nd1 : H1 dx = none := by rw [upd_ne ne] at nd; exact nd
      refine ⟨rfl, dx, _, by rw [upd_ne (fun z => ne z.symm), upd_same], upd_same, nd1, ?_⟩
      have eH : upd (del (upd (upd (upd (upd H1 a (exo a C none)) dx (exd dx [("wish", v1)])) a (exo a C (some dx))) dx (exd dx [("reached", v2), ("wish", v1)])) a) dx (.xd [("reached", v2), ("wish", v1)]) = upd H1 dx (.xd [("reached", v2), ("wish", v1)]) := by
        funext c
        by_cases c1 : c = dx
        · rw [c1, upd_same, upd_same]
        · rw [upd_ne c1, upd_ne c1]
          by_cases c2 : c = a
          · rw [c2, del_same, na]
          · rw [del_ne c2, upd_ne c1, upd_ne c2, upd_ne c1, upd_ne c2]
      rw [eH]
      have s2 : Same H1 (upd H1 dx (.xd [("reached", v2), ("wish", v1)])) := same_new nd1
      have nd0 : H dx = none := by
        cases q : H dx with
        | none => rfl
        | some o => rw [s1 _ _ q] at nd1; cases nd1
      have nW : dx ∉ L ++ M := fun z => I.dom dx z nd0
      refine k.exd C _ E L _ σ dx _ [] h (Step.same (s1.trans s2)) (I.same (s1.trans s2)) nd0 (fun z => nW (List.mem_append_left _ z)) upd_same List.nodup_nil (fun a ha => by cases ha) ?_
      have e2 := R.same (fz_same s2) _ _ q2
      have e1 := R.same (fz_same s2) _ _ q1
      exact FldR.cons (F := []) (.d e2) (FldR.cons (F := []) (.d e1) .nil)
theorem ds_raiseT {x : Str} {C : Addr} {n : Int} {p1 p3 : Pos} (T : CxF X W) (O : IniC X.prog X.w X.K X.mg X.base x C (spNT X.K C)) (hr : Room 2 X.A) (hg : Gl X x) (ha : DA X E (a :: []) [.int n]) (h : P (.ex C (some [("part", .d (.int n))]) E))
    (hdb : (x == ("__debug__" : Str)) = false := by decide) (he : starEach (a :: []) X.env = (false, eval a X.env) :: starEach [] X.env := by rfl) (hpl : (backTo p3 (starEach [] X.env)).any (·.1) = false := by rfl) :
    DSs X W (.Raise (some (.Call (.Name x p1) [a] [] p3)) none pos :: rest) E P := by
  obtain ⟨fI, fd, ps, hO, hm, iC, tI, ok, hb⟩ := O.ex
  obtain ⟨ta, a1, a2⟩ := ha
  refine ⟨fun M L H σ D I k => ⟨_, pss_cons (L2.ps_raise T.calm T.take (pmk_oex hO iC tI ok hr hb .nil (passes_call T.take (fun _ _ _ _ z => z.elim)) hg hm a1 hdb he hpl)) pss_all, a2 M L H σ _ I fun vs H1 s1 r1 => ?_⟩⟩
  cases r1 with
  | @cons v1 _ _ _ q1 r2 =>
    cases r2
    refine ⟨(by show 1 ≤ 1000; decide), fun a na => ?_⟩
    refine ⟨a, v1, rfl, hO, upd_same, fun dx nd ne => ?_⟩
    have nd1 : H1 dx = none := by rw [upd_ne ne] at nd; exact nd
    refine ⟨rfl, dx, [("part", v1)], upd_same, by rw [upd_ne ne, upd_same], nd1, ?_⟩
    have eH : upd (del (upd (upd (upd H1 a (exo a C none)) dx (exd dx [("part", v1)])) a (exo a C (some dx))) a) dx (.xd [("part", v1)]) = upd H1 dx (.xd [("part", v1)]) := by
      funext c
      by_cases c1 : c = dx
      · rw [c1, upd_same, upd_same]
      · rw [upd_ne c1, upd_ne c1]
        by_cases c2 : c = a
        · rw [c2, del_same, na]
        · rw [del_ne c2, upd_ne c2, upd_ne c1, upd_ne c2]
    rw [eH]
    have s2 : Same H1 (upd H1 dx (.xd [("part", v1)])) := same_new nd1
    have nd0 : H dx = none := by
      cases q : H dx with
      | none => rfl
      | some o => rw [s1 _ _ q] at nd1; cases nd1
    have nW : dx ∉ L ++ M := fun z => I.dom dx z nd0
    refine k.exd C _ E L _ σ dx _ [] h (Step.same (s1.trans s2)) (I.same (s1.trans s2)) nd0 (fun z => nW (List.mem_append_left _ z)) upd_same List.nodup_nil (fun a ha => by cases ha) ?_
    have e1 := R.same (fz_same s2) _ _ q1
    exact FldR.cons (F := []) (.d e1) .nil
/-! ### what is asked of an exception -/
/-- isinstance(x, C), x an exception -/
theorem de_isX {nT : Str} {nm pT pos : Pos} {er : Er} {u : Value} {v : V} {p : Bool} (k : PySem.W.kitOne X.K (.ref (A er.c)) u = some p) (N : ClsN X nT v u) (ha : DE X E a (eX A er)) (hg : Gl X "isinstance") (hm : X.mg "isinstance" = none)
    (hs1 : starEach [a, .Name nT pT] X.env = (false, eval a X.env) :: starEach [.Name nT pT] X.env := by rfl) (hs2 : starEach [.Name nT pT] X.env = (false, eval (.Name nT pT) X.env) :: starEach [] X.env := by rfl)
    (hpl : (backTo pos (starEach [.Name nT pT] X.env)).any (·.1) = false := by rfl) : DE X E (.Call (.Name "isinstance" nm) [a, .Name nT pT] [] pos) (.bool p) := by
  obtain ⟨ta, a1, a2⟩ := ha
  refine ⟨_, pe_callB call_isY hg hm (by decide +kernel) (pa_cons a1 (pa_cons (N.pe _) pa_nil hs2) hs1) (he := hs1) (hpl := hpl), fun M L H σ Q I k' => a2 M L H σ _ I fun w H1 s1 r1 => ?_⟩
  obtain ⟨q, d, rfl, h1, hk, hf⟩ := R.excOf (R.same fz_sub _ _ r1)
  exact ⟨.ref q, v, .ref (A er.c), u, p, rfl, N.is, .inr ⟨_, _, _, _, rfl, rfl, h1, hk, hf⟩, k, k' _ H1 s1 (.bl p)⟩
/-- the reading of x.f, x an exception with a dict -/
def tXg (K : PySem.W.Frag) (f : Str) (te : TE) : TE := fun σ H Q => te σ H fun x H1 => ∃ (a C dd : Addr) (fs : List (Str × V)) (v : V), x = .ref a ∧ H1 a = some (ExZ C (some dd) a) ∧ ExcK K C ∧ PySem.W.findIn K (.ref C) f = some none ∧ H1 dd = some (.xd fs) ∧ fs.lookup f = some v ∧ Q v H1
theorem pe_xg {te : TE} {n : Str} (he : PE X e te) (hb : attributeBase e n X.env (eval e X.env) = eval e X.env := by rfl) : PE X (.Attribute e n pos) (tXg X.K n te) := by
  refine ⟨fun pins s σ H Q I h => ?_⟩
  refine attr_of hb (thn (he.run pins s σ H _ I h) fun u s1 hh => ?_)
  obtain ⟨x, H1, I1, rx, a, C, dd, fs, v, ex, hz, hk, hno, ea, l, q⟩ := hh
  subst ex
  cases (show u = Value.ref a from rx)
  obtain ⟨⟨oe, vs, e1, e2, e3⟩, _⟩ := (show ObjOk X.prog X.w H1 s1.heap a (ExZ C (some dd) a) from I1.hok a _ hz)
  obtain ⟨mA, hns, hr⟩ := (show ObjOk X.prog X.w H1 s1.heap dd (.xd fs) from I1.hok dd _ ea)
  obtain ⟨od, ho, hl⟩ := lookIn_ns hns
  obtain ⟨u, hu, ru⟩ := RelO.some_of (v := v) (o := mA n) (by rw [← l]; exact hr n)
  have J : PySem.W.InstAt s1.heap a oe C (some od) := ⟨e1, e2.1, by unfold PySem.W.notCls; rw [e3], by rw [e2.2]; exact ho⟩
  exact HandSPX.exc_get I1.kIn J hk.e.hg hk.e.hk hk.e.hs (PySem.W.findObj_own hk.e.hd hno rfl (by rw [hl, hu])) (handed_of ru) ⟨v, H1, I1.tok _, ru, q⟩
theorem de_wish {er : Er} (h4 : er.c = 4) (hno : PySem.W.findIn X.K (.ref (A er.c)) "wish" = some none) (ha : DE X E a (eX A er)) (hb : attributeBase a "wish" X.env (eval a X.env) = eval a X.env := by rfl) : DE X E (.Attribute a "wish" pos) (.int er.n) := by
  obtain ⟨ta, a1, a2⟩ := ha
  refine ⟨_, pe_xg a1 hb, fun M L H σ Q I k' => a2 M L H σ _ I fun w H1 s1 r1 => ?_⟩
  obtain ⟨q, d, rfl, h1, hk, hf⟩ := R.excOf r1
  unfold erD at hf
  rw [if_pos h4] at hf
  generalize hy : PyData.tuple [.int er.n, .list (er.r.map .int)] = y at hf
  cases hf with
  | w hx hs =>
    simp only [PyData.tuple.injEq, List.cons.injEq, PyData.int.injEq, PyData.list.injEq, and_true] at hy
    refine ⟨q, _, _, _, _, rfl, fz_sub _ _ h1, hk, hno, fz_sub _ _ hx, rfl, k' _ H1 s1 ?_⟩
    rw [hy.1]
    exact .int _
  | _ => cases hy
theorem de_reached {er : Er} (h4 : er.c = 4) (hno : PySem.W.findIn X.K (.ref (A er.c)) "reached" = some none) (ha : DE X E a (eX A er)) (hb : attributeBase a "reached" X.env (eval a X.env) = eval a X.env := by rfl) : DE X E (.Attribute a "reached" pos) (eL PyData.int er.r) := by
  obtain ⟨ta, a1, a2⟩ := ha
  refine ⟨_, pe_xg a1 hb, fun M L H σ Q I k' => a2 M L H σ _ I fun w H1 s1 r1 => ?_⟩
  obtain ⟨q, d, rfl, h1, hk, hf⟩ := R.excOf r1
  unfold erD at hf
  rw [if_pos h4] at hf
  generalize hy : PyData.tuple [.int er.n, .list (er.r.map .int)] = y at hf
  cases hf with
  | w hx hs =>
    simp only [PyData.tuple.injEq, List.cons.injEq, PyData.int.injEq, PyData.list.injEq, and_true] at hy
    have e2 := hy.2
    refine ⟨q, _, _, _, _, rfl, fz_sub _ _ h1, hk, hno, fz_sub _ _ hx, rfl, k' _ H1 s1 ?_⟩
    show R _ _ _ (.list (er.r.map .int))
    rw [e2]
    exact .lst hs RA.ints
  | _ => cases hy
theorem de_part {er : Er} (h9 : er.c = 9) (hno : PySem.W.findIn X.K (.ref (A er.c)) "part" = some none) (ha : DE X E a (eX A er)) (hb : attributeBase a "part" X.env (eval a X.env) = eval a X.env := by rfl) : DE X E (.Attribute a "part" pos) (.int er.n) := by
  obtain ⟨ta, a1, a2⟩ := ha
  refine ⟨_, pe_xg a1 hb, fun M L H σ Q I k' => a2 M L H σ _ I fun w H1 s1 r1 => ?_⟩
  obtain ⟨q, d, rfl, h1, hk, hf⟩ := R.excOf r1
  unfold erD at hf
  rw [if_neg (by omega), if_pos h9] at hf
  generalize hy : PyData.int er.n = y at hf
  cases hf with
  | p hx =>
    cases hy
    exact ⟨q, _, _, _, _, rfl, fz_sub _ _ h1, hk, hno, fz_sub _ _ hx, rfl, k' _ H1 s1 (.int _)⟩
  | _ => cases hy
end
end D
namespace D
open PySem L2 PySem.Spec PyProof.Rows
/-! ### count and index in a list of truths -/
theorem RA.ofBools {K : PySem.W.Frag} {H : Hp} : ∀ {bs : List Bool} {vs : List V}, RA K H vs (bs.map PyData.bool) → vs = bs.map V.bl
  | [], _, h => by cases h; rfl
  | b :: bs, _, h => by
    cases h with
    | cons h1 h2 =>
      cases h1
      rw [RA.ofBools h2]
      rfl
def eqkB (k : Bool) (v : Value) : Bool := match v with
  | .bool b => b == k
  | _ => false
theorem bools_vals : ∀ {bs : List Bool} {us : List Value}, Vals (bs.map V.bl) us → us = bs.map Value.bool
  | [], _, h => by cases h; rfl
  | b :: bs, _, h => by
    cases h with
    | cons h1 h2 =>
      rw [bools_vals h2]
      cases h1
      rfl
theorem eqkB_count (k : Bool) : ∀ (bs : List Bool), (bs.map Value.bool).countP (eqkB k) = bs.count k
  | [] => rfl
  | b :: bs => by
    rw [List.map_cons, List.countP_cons, List.count_cons, eqkB_count k bs]
    rfl
def rCntB (K : PySem.W.Frag) : V → List V → Hp → VK → Prop := fun x xs H Q => ∃ (p : Addr) (bs : List Bool) (k : Bool), x = .ref p ∧ xs = [.bl k] ∧ SqL K H p (bs.map V.bl) ∧ Q (.int (bs.count k : Nat)) H
theorem mt_lcountB {X : Cx} : MtR X "list.count" (rCntB X.K) := by
  intro pins s σ H x xs v us Q I rx rxs h
  obtain ⟨p, bs, k, rfl, rfl, hs, q⟩ := h
  cases rx
  obtain ⟨u, rfl, ru⟩ := rxs.one
  cases (show u = Value.bool k from ru)
  obtain ⟨its, rv, ⟨⟨cls, dd, data, sl⟩, n, ho, hc, hdn, hd⟩, hlen⟩ := I.list hs
  simp only at hc hd
  subst hc hd
  have e := bools_vals rv
  subst e
  refine call_meets PySem.F.slot_list_count ⟨_, ho, rfl⟩ PySem.F.entry_list_count (PySem.F.args_list_count_2 _ _)
    (SeqAt.list_countAt p (bs.map Value.bool).toArray n dd sl (.bool k) (eqkB k)) ⟨ho, fun y hy => ?_, ?_⟩
  · have hm : y ∈ bs.map Value.bool := by simpa using hy
    obtain ⟨b, _, rfl⟩ := List.mem_map.mp hm
    exact eqAt_V (y := .bl b) (x := .bl k) rfl rfl rfl rfl
  · have ec : (bs.map Value.bool).toArray.toList.countP (eqkB k) = bs.count k := eqkB_count k bs
    refine ⟨.int (bs.count k : Nat), H, I.tok _, ⟨s.toks, ?_⟩, q⟩
    show Value.int ((((bs.map Value.bool).toArray.toList.countP (eqkB k) : Nat)) : Int) s.toks = Value.int ((bs.count k : Nat) : Int) s.toks
    rw [ec]
def idxB : List Bool → Bool → Nat
  | [], _ => 0
  | x :: xs, y => if x = y then 0 else idxB xs y + 1
theorem idxB_ok : ∀ (xs : List Bool) (y : Bool), y ∈ xs → xs[idxB xs y]? = some y ∧ ∀ m z, m < idxB xs y → xs[m]? = some z → z ≠ y
  | [], y, h => absurd h List.not_mem_nil
  | x :: xs, y, h => by
    unfold idxB
    by_cases c : x = y
    · rw [if_pos c]
      exact ⟨by rw [c]; rfl, fun m z hm => absurd hm (Nat.not_lt_zero _)⟩
    · rw [if_neg c]
      have hy : y ∈ xs := by
        rcases List.mem_cons.mp h with z | z
        · exact absurd z.symm c
        · exact z
      obtain ⟨h1, h2⟩ := idxB_ok xs y hy
      refine ⟨by rw [List.getElem?_cons_succ]; exact h1, fun m z hm hz => ?_⟩
      cases m with
      | zero => rw [List.getElem?_cons_zero] at hz; cases hz; exact c
      | succ m => rw [List.getElem?_cons_succ] at hz; exact h2 m z (by omega) hz
theorem flat_bools : ∀ bs : List Bool, (bs.map V.bl).all flatV = true
  | [] => rfl
  | b :: bs => by
    rw [List.map_cons, List.all_cons, flat_bools bs]
    rfl
section
variable {X : Cx} {E : List Sl} {a b : Expr} {pos nm : Pos} {bs : List Bool} {y : Bool}
theorem de_countB {ap cp : Pos} (ha : DE X E a (eL .bool bs)) (hb : DE X E b (.bool y))
    (hbase : attributeBase a "count" X.env (eval a X.env) = eval a X.env := by rfl)
    (hfew : ((backTo cp (starEach [b] X.env)).all (fun x => !x.1) && (backToKw cp (keywordEach [] X.env)).all (fun x => x.1.isSome) && decide ([b].length + ([] : List Keyword).length + (if ([] : List Keyword).isEmpty then 0 else 1) < 30)) = true := by rfl)
    (hline : (ap.endLine == cp.line) = true := by rfl) (hst : starEach [b] X.env = (false, eval b X.env) :: starEach [] X.env := by rfl) (hplain : (backTo cp (starEach [] X.env)).any (·.1) = false := by rfl) :
    DE X E (.Call (.Attribute a "count" ap) [b] [] cp) (.int (bs.count y : Nat)) := by
  obtain ⟨ta, a1, a2⟩ := ha
  obtain ⟨tb, b1, b2⟩ := hb
  refine ⟨_, pe_bm PySem.F.plainAttrs_list PySem.F.slot_list_count PySem.F.type_list_count mt_lcountB a1 (pa_cons b1 pa_nil hst) hbase hfew hline hst hplain, fun M L H σ Q I k => a2 M L H σ _ I fun v H1 s1 r1 => ?_⟩
  cases r1 with
  | lst h1 h2 =>
    refine ⟨?_, b2 M L H1 σ _ (I.same s1) fun w H2 s2 r2 => ?_⟩
    · exact .inl ⟨rfl, _, fz_sub.seq h1⟩
    · cases r2
      have e := RA.ofBools h2
      subst e
      exact ⟨_, bs, y, rfl, rfl, s2.seq (fz_sub.seq h1), k _ H2 (s1.trans s2) (.int _)⟩
theorem de_indexB {ap cp : Pos} (ha : DE X E a (eL .bool bs)) (hb : DE X E b (.bool y)) (hy : y ∈ bs)
    (hbase : attributeBase a "index" X.env (eval a X.env) = eval a X.env := by rfl)
    (hfew : ((backTo cp (starEach [b] X.env)).all (fun x => !x.1) && (backToKw cp (keywordEach [] X.env)).all (fun x => x.1.isSome) && decide ([b].length + ([] : List Keyword).length + (if ([] : List Keyword).isEmpty then 0 else 1) < 30)) = true := by rfl)
    (hline : (ap.endLine == cp.line) = true := by rfl) (hst : starEach [b] X.env = (false, eval b X.env) :: starEach [] X.env := by rfl) (hplain : (backTo cp (starEach [] X.env)).any (·.1) = false := by rfl) :
    DE X E (.Call (.Attribute a "index" ap) [b] [] cp) (.int (idxB bs y : Int)) := by
  obtain ⟨ta, a1, a2⟩ := ha
  obtain ⟨tb, b1, b2⟩ := hb
  refine ⟨_, pe_bm PySem.F.plainAttrs_list PySem.F.slot_list_index PySem.F.type_list_index mt_index a1 (pa_cons b1 pa_nil hst) hbase hfew hline hst hplain, fun M L H σ Q I k => a2 M L H σ _ I fun v H1 s1 r1 => ?_⟩
  cases r1 with
  | lst h1 h2 =>
    refine ⟨?_, b2 M L H1 σ _ (I.same s1) fun w H2 s2 r2 => ?_⟩
    · exact .inl ⟨rfl, _, fz_sub.seq h1⟩
    · cases r2
      have e := RA.ofBools h2
      subst e
      obtain ⟨k1, k2⟩ := idxB_ok bs y hy
      refine ⟨_, bs.map .bl, .bl y, idxB bs y, .bl y, rfl, rfl, ?_, rfl, flat_bools bs, ?_, ?_, fun m z hm hz => ?_, k _ H2 (s1.trans s2) (.int _)⟩
      · exact s2.seq (fz_sub.seq h1)
      · rw [List.getElem?_map, k1]; rfl
      · exact beq_self_eq_true _
      · rw [List.getElem?_map] at hz
        cases q : bs[m]? with
        | none => rw [q] at hz; cases hz
        | some u =>
          rw [q] at hz
          cases hz
          exact beq_eq_false_iff_ne.mpr (k2 m u hm q)
end
/-! ### a raising call's outcome, kept -/
def exO {α : Type} : Except Er α → Option Er
  | .ok _ => none
  | .error e => some e
def okO {α : Type} : Except Er α → Option α
  | .ok v => some v
  | .error _ => none
def exG {α σ ρ : Type} (g : Except Er α) (k : α → Go σ (Except Er ρ)) : Go σ (Except Er ρ) := match g with
  | .ok v => k v
  | .error e => .rt (.error e)
theorem exG_er {α σ ρ : Type} {e : Er} {k : α → Go σ (Except Er ρ)} : exG (.error e) k = .rt (.error e) := rfl
theorem exG_ok {α σ ρ : Type} {v : α} {k : α → Go σ (Except Er ρ)} : exG (.ok v) k = k v := rfl
section
variable {X : Cx} {W : WX} {rest : List Stmt} {E E' : List Sl} {P : Out → Prop} {e a b c : Expr} {es : List Expr} {xs : List PyData} {pos : Pos}
/-- x = f(..), f raises -/
theorem ds_setE {f n : Str} {nm p2 : Pos} {k : Nat} {Rf : List PyData → Res → Prop} {C : Addr} {i : Nat} (N : LocN X i n) {fs : Option (List (Str × OT))} (T : CxF X W) (F : FnD X f k Rf) (hg : Gl X f) (ha : DA X E (e :: es) xs) (h : Rf xs (.ex C fs)) (hfs : ∃ er : Er, fs = flE er) (hP : P (.ex C fs E)) (hk : xs.length = k := by rfl) (hdb : (f == ("__debug__" : Str)) = false := by decide)
    (he : starEach (e :: es) X.env = (false, eval e X.env) :: starEach es X.env := by rfl) {cp : Pos} (hpl : (backTo cp (starEach es X.env)).any (·.1) = false := by rfl) (hs : swapsWith (.Call (.Name f nm) (e :: es) [] cp) (some (.Name n p2)) pos.line X.env = pure false := by rfl) : DSs X W (.Assign [.Name n p2] (.Call (.Name f nm) (e :: es) [] cp) pos :: rest) E P := by
  obtain ⟨g, fd, ps, k, ok, hr, hm, hkp, hb⟩ := F.ex
  obtain ⟨ta, a1, a2⟩ := ha
  refine ⟨fun M L H σ D I kk => ⟨_, pss_cons (ps_set N.nd N.ix N.loc (L2.pe_callS ok hr hg hm hkp hb (fun σ => passAt T.take σ) a1 hdb he hpl) hs N.fn) pss_all, a2 M L H σ _ I fun vs H1 s1 r1 => ?_⟩⟩
  refine ⟨L ++ M, xs, .ex C fs, hk, (I.same s1).dom, r1, h, ?_⟩
  cases fs with
  | none => exact fun H' s2 => kk.ex C E L H' σ hP (Step.same (s1.trans s2)) (I.same (s1.trans s2))
  | some fs =>
    intro d gs H' F s2 hd hdF hdx nF hF fr
    obtain ⟨er, hfs⟩ := hfs
    have nd : H d = none := by
      cases q : H d with
      | none => rfl
      | some o => rw [s1 _ _ q] at hd; cases hd
    have hF0 : F = [] := by
      unfold flE at hfs
      split at hfs
      · cases hfs; cases fr with
        | cons h1 h2 => cases h1; cases h2 with
          | cons h3 h4 => cases h3; cases h4; rfl
      · split at hfs
        · cases hfs; cases fr with
          | cons h1 h2 => cases h1; cases h2; rfl
        · cases hfs
    subst hF0
    exact kk.exd C fs E L H' σ d gs [] hP (Step.same (s1.trans s2)) (I.same (s1.trans s2)) nd (fun z => I.dom d (List.mem_append_left _ z) nd) hdx List.nodup_nil (fun a ha => by cases ha) fr
end
end D
namespace D
open PySem L2 PySem.Spec PyProof.Rows
def OexCls (K : PySem.W.Frag) (C : Addr) : Prop := ∃ nm q N bs bm sn sub ab col dd k0 k1 k2 k3 k5, K.lookup C = some (excClassObj nm q C N bs bm true sn sub ab col dd k0 k1 k2 k3 k5 "ValueError.__new__") ∧ PySem.HandSPX.refsVE bm = true
theorem ini_w {P : Program} {w : World} {K : PySem.W.Frag} {mg : Str → Option Value} {base : Heap} {x : Str} {C fI : Addr} {fd : FuncData} {ps : List Str} {sp : Sp} (h1 : OexCls K C) (h2 : PySem.W.findIn K (.ref C) "__setattr__" = some (some (.builtin "object.__setattr__"))) (h3 : PySem.W.subIn K (.ref C) (.type "BaseException") = some true)
    (h4 : PySem.W.typeIn K (.ref C) = some (.type "type")) (h5 : PySem.W.keepIn K (.ref C) = true) (hm : mg x = some (.ref C)) (h6 : PySem.W.findIn K (.ref C) "__init__" = some (some (.ref fI))) (h7 : PySem.W.typeIn K (.ref fI) = some (.type "function"))
    (F : FnOk P w K mg base (L2.CX P w) 1 fI fd ps sp) (b : Binds K fd ps []) : IniC P w K mg base x C sp := ⟨fI, fd, ps, ⟨h1, h2, h3, h4, h5⟩, hm, h6, h7, F, b⟩
theorem cd_of {K : PySem.W.Frag} {C : Addr} (e : ExcC K C) (h1 : PySem.W.subIn K (.ref C) (.type "int") = some false) (h2 : PySem.W.subIn K (.ref C) (.type "bool") = some false) (h3 : PySem.W.subIn K (.ref C) (.type "tuple") = some false) (h4 : PySem.W.subIn K (.ref C) (.type "list") = some false) (h5 : PySem.W.subIn K (.ref C) (.type "str") = some false) : ExcK K C :=
  ⟨e, kit_tyF (by rfl) h1, kit_tyF (by rfl) h2, kit_tyF (by rfl) h3, kit_tyF (by rfl) h4, kit_tyF (by rfl) h5⟩
end D

end

section
set_option Elab.async false
set_option linter.all false
set_option autoImplicit false
set_option maxRecDepth 100000
set_option maxHeartbeats 2000000
namespace D
open PySem L2 PySem.Spec PyProof.Rows
/-! ### xs * n, xs any list -/
theorem int_rmul_listW (a : Int) (t : Tok) (l : Addr) (items : Array Value) (n : Nat) (dd : Option Addr) (sl : Array (Option Value)) :
    Meets (Builtin.«int.__rmul__» ⟨[.int a t, .ref l], []⟩) (fun _ R s => s.heap.get? l = some { cls := .type "list", dict := dd, data := .seq items n, slots := sl } ∧ R (.ok (.ret Value.notImplemented)) s) :=
  .of_wp fun prog w A R s h => by obtain ⟨hp, g, d, tk, os⟩ := s; obtain ⟨hl, h⟩ := h; wp_walk using wpAny_loadPart' hl; exact ⟨_, rfl, h⟩
theorem list_mulW (l : Addr) (items : Array Value) (n : Nat) (dd : Option Addr) (sl : Array (Option Value)) (x : Int) (u : Tok) (hc0 : ¬(!Builtin.List.listFitsIndex x) = true) (hc1 : ¬items.size * x.toNat > (2 ^ 63 - 1) / 8) (hc2 : ¬Builtin.List.listTooLong (items.size * x.toNat) = true) :
    Meets (Builtin.«list.__mul__» ⟨[.ref l, .int x u], []⟩) (fun _ R s => s.heap.get? l = some { cls := .type "list", dict := dd, data := .seq items n, slots := sl } ∧ R (.ok (.ret (Value.ref s.heap.objs.size))) { s with heap := s.heap.push { cls := Value.type "list", data := Data.seq (List.foldl (fun x1 x2 => x1 ++ x2) #[] (List.replicate (if items.isEmpty = true then 0 else x.toNat) items)) }, toks := s.toks }) :=
  .of_wp fun prog w A R s h => by
    obtain ⟨hp, g, d, tk, os⟩ := s
    obtain ⟨hl, h⟩ := h
    have hsz := AutoListH.joined_fits hc2
    wp_walk using wpAny_loadPart' hl
    refine wpAny_ite_false (decide_eq_false (Nat.not_lt.mpr hsz)) ?_
    wp_walk using wpAny_loadPart' hl
    exact ⟨_, rfl, h⟩
def rRepS (K : PySem.W.Frag) : R2 := fun x y H Q => ∃ l k xs, x = .ref l ∧ y = .int k ∧ SqL K H l xs ∧ 0 ≤ k ∧ k ≤ 1000 ∧ xs.length * k.toNat ≤ sizeLine ∧ ∀ p, H p = none → Q (.ref p) (upd H p (.lst (List.replicate k.toNat xs).flatten))
theorem op_repS {X : Cx} : OpR X (binaryOp .Mult) (rRepS X.K) := by
  intro pins s σ H x y v u Q I rx ry h
  obtain ⟨l, k, xs, rfl, rfl, hH, h1, h2, hz, q⟩ := h
  cases rx
  obtain ⟨t, rfl⟩ := ry
  obtain ⟨its, r, pl, hl⟩ := I.list hH
  obtain ⟨⟨cls, dd, data, sl⟩, n, ho, hc, hd, hdat⟩ := pl
  simp only at hc hd hdat
  subst hc hd hdat
  have hle : its.length = xs.length := r.length.symm
  have hlen : its.toArray.size * k.toNat ≤ sizeLine := by rw [List.size_toArray, hle]; exact hz
  have hcap : ¬ its.toArray.size * k.toNat > (2 ^ 63 - 1) / 8 := by
    have : (sizeLine : Nat) ≤ (2 ^ 63 - 1) / 8 := by decide
    omega
  have hfit : ¬ (!Builtin.List.listFitsIndex k) = true := by
    rw [fitsIndex_both (by omega) (by omega)]
    exact Bool.false_ne_true
  have hlong : ¬ Builtin.List.listTooLong (its.toArray.size * k.toNat) = true := by
    rw [notLongL hlen]
    exact Bool.false_ne_true
  have hnew : List.foldl (fun x1 x2 => x1 ++ x2) #[] (List.replicate (if its.toArray.isEmpty = true then 0 else k.toNat) its.toArray) = (List.replicate k.toNat its).flatten.toArray := by
    rw [size_rep]
    cases its with
    | nil => simp
    | cons a r' => rw [if_neg (by simp)]
  refine wpAny_binaryOp_repeat_ref (T := "list") (U := "int") (by decide) ⟨_, ho, rfl⟩ (fun s' => typeIs_int s' k t) noFill_list_mul F.fills_int_mul F.slot_int_rmul repeat_list F.slot_int_index.lookup
    (call_meets F.slot_int_rmul (typeIs_int s k t) F.entry_int_rmul (F.args_int_rmul_2 _ _) (int_rmul_listW k t l its.toArray n none sl)
      ⟨ho, rfl, ⟨_, ho, rfl⟩, call_meets F.slot_list_mul ⟨_, ho, rfl⟩ F.entry_list_mul (F.args_list_mul_2 _ _) (list_mulW l its.toArray n none sl k t hfit hcap hlong) ⟨ho, ?_⟩⟩)
  rw [hnew]
  exact ⟨.ref _, _, I.lnew (t' := s.toks) (r.rep k.toNat) (by rw [PyProof.Rows.lm_len_rep_flat, Nat.mul_comm]; exact hz), rfl, q _ I.fresh⟩
def repL {α : Type} (xs : List α) (k : Int) : List α := (List.replicate k.toNat xs).flatten
theorem rep_map {α β : Type} (f : α → β) (xs : List α) : ∀ n : Nat, (List.replicate n (xs.map f)).flatten = ((List.replicate n xs).flatten).map f
  | 0 => rfl
  | n + 1 => by rw [List.replicate_succ, List.replicate_succ, List.flatten_cons, List.flatten_cons, List.map_append, rep_map f xs n]
section
variable {X : Cx} {E : List Sl} {a b : Expr} {pos : Pos} {α : Type} {f : α → PyData} {xs : List α} {i : Int}
theorem dn_repM (ha : DE X E a (eL f xs)) (hb : DE X E b (.int i)) (h0 : 0 ≤ i ∧ i ≤ 1000) (h : xs.length * i.toNat ≤ sizeLine) : DN X E (.BinOp a .Mult b pos) (oL f (repL xs i)) := by
  obtain ⟨ta, a1, a2⟩ := ha
  obtain ⟨tb, b1, b2⟩ := hb
  refine ⟨_, pe_op op_repS a1 b1, fun M L H σ Q I k => a2 M L H σ _ I fun v H1 s1 r1 => b2 M L H1 σ _ (I.same s1) fun w H2 s2 r2 => ?_⟩
  cases r2
  cases R.same (fz_same s2) _ _ r1 with
  | lst hs hr =>
    refine ⟨_, i, _, rfl, rfl, fz_sub.seq hs, h0.1, h0.2, by rw [hr.length, List.length_map]; exact h, fun p hp => ?_⟩
    have q1 := hr.rep i.toNat
    rw [rep_map f xs] at q1
    exact own_new I (s1.trans s2) q1 hp (fun v H' F k1 k2 k3 k4 => k v H' F k1 k2 k3 (by unfold oL repL; exact k4))
end
end D

end

section
set_option Elab.async false
set_option linter.all false
set_option autoImplicit false
set_option maxRecDepth 100000
set_option maxHeartbeats 2000000
namespace D
open PySem L2 PySem.Spec PyProof.Rows
section
variable {X : Cx} {W : WX} {E E' : List Sl} {P : Out → Prop} {a b e : Expr} {pos : Pos} {i j : Int} {x y : PyData}
/-! ### bits -/
theorem de_shl (ha : DE X E a (.int i)) (hb : DE X E b (.int j)) (h : CPow i j) : DE X E (.BinOp a .LShift b pos) (.int (i * 2 ^ j.toNat)) := by
  obtain ⟨ta, a1, a2⟩ := ha
  obtain ⟨tb, b1, b2⟩ := hb
  refine ⟨_, pe_op op_shl a1 b1, fun M L H σ Q I k => a2 M L H σ _ I fun v H1 s1 r1 => b2 M L H1 σ _ (I.same s1) fun w H2 s2 r2 => ?_⟩
  cases r1
  cases r2
  exact ⟨i, j, rfl, rfl, h, k _ H2 (s1.trans s2) (.int _)⟩
theorem de_shr (ha : DE X E a (.int i)) (hb : DE X E b (.int j)) (h : 0 ≤ j) : DE X E (.BinOp a .RShift b pos) (.int (i / 2 ^ j.toNat)) := by
  obtain ⟨ta, a1, a2⟩ := ha
  obtain ⟨tb, b1, b2⟩ := hb
  refine ⟨_, pe_op op_shr a1 b1, fun M L H σ Q I k => a2 M L H σ _ I fun v H1 s1 r1 => b2 M L H1 σ _ (I.same s1) fun w H2 s2 r2 => ?_⟩
  cases r1
  cases r2
  exact ⟨i, j, rfl, rfl, h, k _ H2 (s1.trans s2) (.int _)⟩
def bAnd (i j : Int) : Int := Builtin.bitAnd i j
theorem de_band (ha : DE X E a (.int i)) (hb : DE X E b (.int j)) : DE X E (.BinOp a .BitAnd b pos) (.int (bAnd i j)) := by
  obtain ⟨ta, a1, a2⟩ := ha
  obtain ⟨tb, b1, b2⟩ := hb
  refine ⟨_, pe_op op_and a1 b1, fun M L H σ Q I k => a2 M L H σ _ I fun v H1 s1 r1 => b2 M L H1 σ _ (I.same s1) fun w H2 s2 r2 => ?_⟩
  cases r1
  cases r2
  exact ⟨i, j, rfl, rfl, k _ H2 (s1.trans s2) (.int _)⟩
/-! ### a, b = a list of two -/
theorem ds_unpL {i j : Nat} {n m : Str} {px py pt : Pos} {kt : Nat} (C : CxF X W) (N : LocN X i n) (M2 : LocN X j m) (hij : i ≠ j) (he : DE X E e (.list [x, y])) (hE : (E.set i (.o (.d x))).set j (.o (.d y)) = E' := by rfl) (hi : Nat.ble (i + 1) E.length = true := by rfl) (hj : Nat.ble (j + 1) E.length = true := by rfl)
    (hs : swapsWithSole [.Tuple [.Name n px, .Name m py] kt pt] e pos.line X.env = pure false := by rfl) (hw : swappedStores [.Tuple [.Name n px, .Name m py] kt pt] e X.env = pure none := by rfl) (h1 : (assignEach [.Tuple [.Name n px, .Name m py] kt pt] X.env).map (·.2) = assign (.Tuple [.Name n px, .Name m py] kt pt) X.env :: (assignEach [] X.env).map (·.2) := by rfl)
    (hs1 : (assignEach [.Name n px, .Name m py] X.env).map (·.2) = assign (.Name n px) X.env :: (assignEach [.Name m py] X.env).map (·.2) := by rfl) (hs2 : (assignEach [.Name m py] X.env).map (·.2) = assign (.Name m py) X.env :: (assignEach [] X.env).map (·.2) := by rfl)
    (hn : (assignEach [.Name n px, .Name m py] X.env).length = 2 := by rfl) (hst : (assignEach [.Name n px, .Name m py] X.env).findIdx? (·.1) = none := by rfl) :
    DS X W (.Assign [.Tuple [.Name n px, .Name m py] kt pt] e pos) E (th (· = E') P) := by
  obtain ⟨te, e1, e2⟩ := he
  refine ⟨fun M L H σ D I k => ⟨_, ps_asg e1 (pg_lst C.calm (pgs_cons (pg_name N.nd N.ix N.loc N.fn) (pgs_cons (pg_name M2.nd M2.ix M2.loc M2.fn) pgs_nil hs2) hs1) hn hst) hs hw h1, e2 M L H σ _ I fun w H1 s1 r1 => ?_⟩⟩
  cases r1 with
  | lst h2 h3 =>
    cases h3 with
    | @cons v1 _ _ _ q1 h4 =>
      cases h4 with
      | @cons v2 _ _ _ q2 h5 =>
        cases h5
        refine ⟨_, [v1, v2], rfl, fz_sub.seq h2, rfl, v1, [v2], rfl, v2, [], rfl, rfl, ?_⟩
        have I2 := ((I.same s1).setD (i := i) (Nat.le_of_ble_eq_true hi) q1).setD (i := j) (by rw [List.length_set]; exact Nat.le_of_ble_eq_true hj) q2
        exact k.nx E' L H1 _ rfl (Step.same s1) (hE ▸ I2)
/-! ### is not None, as a truth -/
theorem de_notN8 (ha : DE X E a x) {j p2} : DE X E (.Compare a [.IsNot] [.Constant .none j p2] pos) (.bool (!isNon x)) :=
  de_cmp op_notN ha (de_non (E := E)) (fun M L H σ v w Q I r1 r2 k => by cases r2; exact ⟨rfl, k _ H (Same.refl H) (by rw [isNon_v r1]; exact .bl _)⟩) (nomark _)
theorem de_notNO {α : Type} {f : α → PyData} {o : Option α} {j p2} (ha : DE X E a (eO f o)) (hf : ∀ a, isNon (f a) = false := by intro _; rfl) : DE X E (.Compare a [.IsNot] [.Constant .none j p2] pos) (.bool (!o.isNone)) := (de_notN8 ha).cast (by rw [isNon_O hf])
end
end D

end

section
set_option Elab.async false
set_option linter.all false
set_option maxRecDepth 100000
set_option maxHeartbeats 4000000
set_option simprocs false
namespace K08
open PySem L2 D
def top (i : Nat) : Stmt := PySem.Challenge.pw_crowdroads_k08_whole_no_way.main.body.getD i (.Pass ⟨0, 0, 0, 0⟩)
def Cd (c : Nat) : Prop := c = 3 ∨ c = 4 ∨ c = 5
def mth (i j : Nat) : Stmt := match top i with | .ClassDef _ _ _ b _ _ _ _ _ _ _ => b.getD j (.Pass ⟨0, 0, 0, 0⟩) | s => s
abbrev s_NoText_init : Stmt := mth 10 0
abbrev s_NoWay_init : Stmt := mth 5 0
abbrev s_is_whole : Stmt := top 12
abbrev s_common_part : Stmt := top 13
abbrev s_is_fraction : Stmt := top 14
abbrev s_is_place : Stmt := top 16
abbrev s_two_places : Stmt := top 17
abbrev s_usable_roads : Stmt := top 21
abbrev s_reached_from : Stmt := top 22
abbrev s_ways_between : Stmt := top 23
abbrev s_ask_way : Stmt := top 24
abbrev s_wish_fits : Stmt := top 25
abbrev s_ways_of : Stmt := top 26
abbrev s_made_wishes : Stmt := top 27
abbrev s_l_whole : Stmt := top 29
abbrev s_l_draws : Stmt := top 30
abbrev s_l_mixed : Stmt := top 31
abbrev s_l_base : Stmt := top 32
abbrev s_l_net : Stmt := top 33
abbrev s_l_wishes : Stmt := top 34
abbrev s_l_listed : Stmt := top 35
abbrev s_l_reached : Stmt := top 36
abbrev s_l_asked : Stmt := top 37
abbrev s_l_only : Stmt := top 38
abbrev s_l_good : Stmt := top 39
abbrev s_l_laid : Stmt := top 40
abbrev s_law : Stmt := top 41
structure Txt (K : PySem.W.Frag) (mg : Str → Option Value) (A : Nat → Addr) : Prop where
  b_ValueError : mg "ValueError" = none
  b_abs : mg "abs" = none
  b_bool : mg "bool" = none
  b_enumerate : mg "enumerate" = none
  b_int : mg "int" = none
  b_isinstance : mg "isinstance" = none
  b_len : mg "len" = none
  b_list : mg "list" = none
  b_max : mg "max" = none
  b_range : mg "range" = none
  b_sorted : mg "sorted" = none
  b_sum : mg "sum" = none
  b_tuple : mg "tuple" = none
  c_MOST_WAYS : ConstD K mg "MOST_WAYS" (.int 10)
  c_MOST_WISHES : ConstD K mg "MOST_WISHES" (.int 3)
  x_NoWish : OwnExc K mg "NoWish" (A 3)
  x_TooMany : OwnExc K mg "TooMany" (A 5)
  xm : ∀ c, Cd c → PySem.W.exmOne K (.ref (A c)) (.ref (A 10)) = some true
  ek : ∀ c, Cd c → ExcK K (A c)
  kv : ∀ c, Cd c → PySem.W.kitOne K (.ref (A c)) (.type "ValueError") = some true
  kx_2 : ∀ c, Cd c → PySem.W.kitOne K (.ref (A c)) (.ref (A 2)) = some (decide (c = 2))
  kx_1 : ∀ c, Cd c → PySem.W.kitOne K (.ref (A c)) (.ref (A 1)) = some (decide (c = 1))
  kx_6 : ∀ c, Cd c → PySem.W.kitOne K (.ref (A c)) (.ref (A 6)) = some (decide (c = 6))
  kx_7 : ∀ c, Cd c → PySem.W.kitOne K (.ref (A c)) (.ref (A 7)) = some (decide (c = 7))
  kx_8 : ∀ c, Cd c → PySem.W.kitOne K (.ref (A c)) (.ref (A 8)) = some (decide (c = 8))
  kx_9 : ∀ c, Cd c → PySem.W.kitOne K (.ref (A c)) (.ref (A 9)) = some (decide (c = 9))
  kx_4 : ∀ c, Cd c → PySem.W.kitOne K (.ref (A c)) (.ref (A 4)) = some (decide (c = 4))
  kx_3 : ∀ c, Cd c → PySem.W.kitOne K (.ref (A c)) (.ref (A 3)) = some (decide (c = 3))
  kx_5 : ∀ c, Cd c → PySem.W.kitOne K (.ref (A c)) (.ref (A 5)) = some (decide (c = 5))
  g_NoNet : mg "NoNet" = some (.ref (A 2))
  g_NoNumber : mg "NoNumber" = some (.ref (A 1))
  g_NoShare : mg "NoShare" = some (.ref (A 6))
  g_NoStep : mg "NoStep" = some (.ref (A 7))
  g_NoSuch : mg "NoSuch" = some (.ref (A 8))
  g_NoText : mg "NoText" = some (.ref (A 9))
  g_NoWay : mg "NoWay" = some (.ref (A 4))
  g_NoWish : mg "NoWish" = some (.ref (A 3))
  g_RoadError : mg "RoadError" = some (.ref (A 10))
  g_TooMany : mg "TooMany" = some (.ref (A 5))
  no_wish : PySem.W.findIn K (.ref (A 4)) "wish" = some none
  no_reached : PySem.W.findIn K (.ref (A 4)) "reached" = some none
section
variable {A : Nat → Addr} {P : Program} {w : World} {K : PySem.W.Frag} {mg : Str → Option Value} {base : Heap}
theorem ok_NoWay_init {fI R C : Addr} {fd : FuncData} (F : Fun K "__init__" "NoWay.__init__" s_NoWay_init fI fd) (hR : mg "RoadError" = some (.ref R)) (FR : RinC K R) (h0 : PySem.W.findIn K (.ref C) "wish" = some none) (h1 : PySem.W.findIn K (.ref C) "reached" = some none) : FnOk P w K mg base (L2.CX P w) 1 fI fd ["self", "wish", "reached"] (spNW K C) := by
  refine F.okX (N := ["self", "wish", "reached"]) ⟨rfl, rfl, rfl, by decide +kernel, rfl, by decide +kernel, by decide +kernel⟩ (fun vs H Q E h => by obtain ⟨a, v0, v1, rfl, _⟩ := h; rfl) (fun cdv AA outer ss HH vs Q EE hr h => ?_)
  obtain ⟨a, v0, v1, rfl, O, ha, q⟩ := h
  refine ⟨_, pss_cons (ps_expr (pe_rinit FR rfl hR (pa_cons (pv 0) (pa_cons pe_str pa_nil)))) (pss_cons (ps_ost (pv 0) (pv 1)) (pss_cons (ps_ost (pv 0) (pv 2)) pss_nil)), ?_⟩
  refine ⟨.ref a, rfl, a, C, [_], rfl, by decide, O, ha, ?_⟩
  refine ⟨v0, rfl, .ref a, rfl, a, C, rfl, O, h0, .inl ⟨ha, fun dx nd ne => ?_⟩⟩
  exact ⟨v1, rfl, .ref a, rfl, a, C, rfl, O, h1, .inr ⟨dx, [("wish", v0)], upd_same, by rw [upd_ne ne, upd_same], (by show 1 ≤ 900; decide), q dx nd ne⟩⟩
theorem ok_NoText_init {fI R C : Addr} {fd : FuncData} (F : Fun K "__init__" "NoText.__init__" s_NoText_init fI fd) (hR : mg "RoadError" = some (.ref R)) (FR : RinC K R) (h0 : PySem.W.findIn K (.ref C) "part" = some none) : FnOk P w K mg base (L2.CX P w) 1 fI fd ["self", "part"] (spNT K C) := by
  refine F.okX (N := ["self", "part"]) ⟨rfl, rfl, rfl, by decide +kernel, rfl, by decide +kernel, by decide +kernel⟩ (fun vs H Q E h => by obtain ⟨a, v0, rfl, _⟩ := h; rfl) (fun cdv AA outer ss HH vs Q EE hr h => ?_)
  obtain ⟨a, v0, rfl, O, ha, q⟩ := h
  refine ⟨_, pss_cons (ps_expr (pe_rinit FR rfl hR (pa_cons (pv 0) (pa_cons pe_str pa_nil)))) (pss_cons (ps_ost (pv 0) (pv 1)) pss_nil), ?_⟩
  refine ⟨.ref a, rfl, a, C, [_], rfl, by decide, O, ha, ?_⟩
  refine ⟨v0, rfl, .ref a, rfl, a, C, rfl, O, h0, .inl ⟨ha, fun dx nd ne => ?_⟩⟩
  exact q dx nd ne
def m_is_whole (thing : PySem.PyData) : Bool := ((isInt thing) && (!(isBool thing)))
def r_is_whole (xs : List PyData) (r : Res) : Prop := ∃ (thing : PySem.PyData), xs = [thing] ∧ r = .v (.bool (m_is_whole thing))
abbrev N_is_whole : List Str := ["thing"]
theorem sc_is_whole : FnScope N_is_whole ["thing"] (defScope s_is_whole) := ⟨rfl, rfl, rfl, by decide +kernel, rfl, by decide +kernel, by decide +kernel⟩
theorem ok_is_whole (F : Def K mg "is_whole" s_is_whole ["thing"]) (T : Txt K mg A)  : Cal P w K mg base "is_whole" 1 r_is_whole 1 := by
  refine cal_ok F sc_is_whole rfl fun fa cdv AA outer ss HH EE X hX C hr xs r hl hR => ?_
  obtain ⟨thing, rfl, rfl⟩ := hR
  subst hX
  show DSs _ _ _ [.v thing] _
  exact ds_retD (de_and (de_isi (kit_int thing) (de_v 0 (pv 0)) rfl T.b_isinstance rfl T.b_int) (fun _ => (de_one (de_not (de_isi (kit_bool thing) (de_v 0 (pv 0)) rfl T.b_isinstance rfl T.b_bool))))) (.inl (by simp only [m_is_whole, cond_true, cond_false, Bool.not_true, Bool.not_false, goM, goN]; try rfl))
theorem whole_of {x : PyData} (h : m_is_whole x = true) : isWhole x = true := whole_mk h
def l_common_part_1  (s_1 : Int × Int) : Go (Int × Int) Empty := (let other_2 := (s_1.1 % s_1.2); (.nx (s_1.2, other_2)))
def l_common_part_1_c  (s_1 : Int × Int) : Bool := (!decide (s_1.2 = (0 : Int)))
def m_common_part (one : Int) (other : Int) : Int := (let one_1 := (one.natAbs : Int); (let other_1 := (other.natAbs : Int); (goN (whileG l_common_part_1_c l_common_part_1 ((fun (s_1 : Int × Int) => s_1.2.toNat) (one_1, other_1) + 1) (one_1, other_1)) (fun s_2 => s_2.1))))
def r_common_part (xs : List PyData) (r : Res) : Prop := ∃ (one : Int) (other : Int), xs = [(.int one), (.int other)] ∧ r = .v (.int (m_common_part one other))
abbrev N_common_part : List Str := ["one", "other"]
theorem sc_common_part : FnScope N_common_part ["one", "other"] (defScope s_common_part) := ⟨rfl, rfl, rfl, by decide +kernel, rfl, by decide +kernel, by decide +kernel⟩
theorem ok_common_part (F : Def K mg "common_part" s_common_part ["one", "other"]) (T : Txt K mg A)  : Cal P w K mg base "common_part" 2 r_common_part 1 := by
  refine cal_ok F sc_common_part rfl fun fa cdv AA outer ss HH EE X hX C hr xs r hl hR => ?_
  obtain ⟨one, other, rfl, rfl⟩ := hR
  subst hX
  show DSs _ _ _ [.v (.int one), .v (.int other)] _
  obtain ⟨one_1, e_one_1⟩ : ∃ z : Int, z = (one.natAbs : Int) := ⟨_, rfl⟩
  refine ds_then (E' := [.v (.int one_1), .v (.int other)]) (ds_set (x := (.int one_1)) (ln 0 sc_common_part.nd) (deC (by subst e_one_1; rfl) (de_abs (de_v 0 (pv 0)) rfl T.b_abs))) ?_
  obtain ⟨other_1, e_other_1⟩ : ∃ z : Int, z = (other.natAbs : Int) := ⟨_, rfl⟩
  refine ds_then (E' := [.v (.int one_1), .v (.int other_1)]) (ds_set (x := (.int other_1)) (ln 1 sc_common_part.nd) (deC (by subst e_other_1; rfl) (de_abs (de_v 1 (pv 1)) rfl T.b_abs))) ?_
  refine ds_whileG (fun (s_1 : Int × Int) => [.v (.int s_1.1), .v (.int s_1.2)]) l_common_part_1_c l_common_part_1 (fun (s_1 : Int × Int) => s_1.2.toNat) (one_1, other_1) (fun (s_1 : Int × Int) => 0 ≤ s_1.1 ∧ 0 ≤ s_1.2) (fun (s_1 : Int × Int) => 0 ≤ s_1.1 ∧ 0 ≤ s_1.2) (fun (_ : Empty) _ => False) C (by repeat (first | exact Le.nil | refine Le.same ?_ | refine Le.drop ?_)) (by first | trivial | omega) ?_ ?_ (fun _ h _ => h) ?_ ?_
  · intro s_1 hi_1
    exact (dt_neI (de_v 1 (pv 1)) de_int)
  · intro s_1 hi_1 c_1
    have q_c_1 : (!decide (s_1.2 = (0 : Int))) = true := c_1
    try simp only [eqD_t, eqD_f, decide_eq_true_eq, decide_eq_false_iff_not, Bool.not_eq_true', Bool.not_eq_false', Bool.and_eq_true, Bool.or_eq_true, Bool.and_eq_false_iff, Bool.or_eq_false_iff, Bool.not_true, Bool.not_false, Bool.not_not, Decidable.not_not] at q_c_1
    have t1 := Int.emod_nonneg s_1.1 (show s_1.2 ≠ 0 by omega)
    have t2 := Int.emod_lt_of_pos s_1.1 (show 0 < s_1.2 by omega)
    obtain ⟨other_2, e_other_2⟩ : ∃ z : Int, z = (s_1.1 % s_1.2) := ⟨_, rfl⟩
    refine ds_then (E' := [.v (.int s_1.2), .v (.int other_2)]) (ds_par (x := (.int s_1.2)) (y := (.int other_2)) rfl (ln 0 sc_common_part.nd) (ln 1 sc_common_part.nd) (by decide) (de_v 1 (pv 1)) (deC (by subst e_other_2; rfl) (de_mod (de_v 0 (pv 0)) (de_v 1 (pv 1)) (by first | omega | assumption | decide))) rfl rfl (by rfl)) ?_
    exact ds_nil ⟨(s_1.2, other_2), (by subst e_one_1 e_other_1 e_other_2; simp only [l_common_part_1, cond_true, cond_false, Bool.not_true, Bool.not_false, goM, goN]; try rfl), (by repeat (first | exact Le.nil | refine Le.same ?_ | refine Le.drop ?_)), ⟨by first | trivial | omega, by omega⟩⟩
  · intro r o f_1 ho hr_
    exact r.elim
  intro s_2 f_1 hi_1
  exact ds_retD (de_v 0 (pv 0)) (.inl (by subst e_one_1 e_other_1; first | (simp only [m_common_part, f_1, cond_true, cond_false, Bool.not_true, Bool.not_false, goM, goN]; first | done | rfl) | (simp only [m_common_part]; rw [f_1]; first | done | rfl) | (simp only [m_common_part]; (try dsimp only at f_1); (try simp only [f_1, cond_true, cond_false, Bool.not_true, Bool.not_false, goM, goN]); first | done | rfl)))
theorem m_common_part_eq (a b : Int) : m_common_part a b = (Int.gcd a b : Int) := by
  obtain ⟨g, e, h1, h2, h3⟩ := whileG_gcd (c := l_common_part_1_c) (f := l_common_part_1) (fun _ => rfl) (fun _ => rfl) ((b.natAbs : Int).toNat + 1) (a.natAbs : Int) (b.natAbs : Int) (by omega) (by omega)
  show goN (whileG l_common_part_1_c l_common_part_1 ((b.natAbs : Int).toNat + 1) ((a.natAbs : Int), (b.natAbs : Int))) (fun s => s.1) = _
  rw [e]
  show g = _
  have h4 := h2 (by omega)
  rw [← (show Int.gcd (a.natAbs : Int) (b.natAbs : Int) = Int.gcd a b by simp [Int.gcd])]
  all_goals omega
def m_is_fraction (thing : PySem.PyData) : Bool := (bif ((!(isTuple thing)) || (!decide ((pyLen thing) = (2 : Int)))) then false else (bif ((!(m_is_whole (gx (elems thing) (0 : Int)))) || ((!(m_is_whole (gx (elems thing) (1 : Int)))) || (decide ((asI (gx (elems thing) (1 : Int))) < (1 : Int))))) then false else (decide ((m_common_part (asI (gx (elems thing) (0 : Int))) (asI (gx (elems thing) (1 : Int)))) = (1 : Int)))))
def r_is_fraction (xs : List PyData) (r : Res) : Prop := ∃ (thing : PySem.PyData), xs = [thing] ∧ r = .v (.bool (m_is_fraction thing))
abbrev N_is_fraction : List Str := ["thing"]
theorem sc_is_fraction : FnScope N_is_fraction ["thing"] (defScope s_is_fraction) := ⟨rfl, rfl, rfl, by decide +kernel, rfl, by decide +kernel, by decide +kernel⟩
theorem ok_is_fraction (F : Def K mg "is_fraction" s_is_fraction ["thing"]) (T : Txt K mg A) (c_is_whole : Cal P w K mg base "is_whole" 1 r_is_whole 1) (c_common_part : Cal P w K mg base "common_part" 2 r_common_part 1) : Cal P w K mg base "is_fraction" 1 r_is_fraction 2 := by
  refine cal_ok F sc_is_fraction rfl fun fa cdv AA outer ss HH EE X hX C hr xs r hl hR => ?_
  obtain ⟨thing, rfl, rfl⟩ := hR
  subst hX
  show DSs _ _ _ [.v thing] _
  refine ds_ifr (DW.toT (dw_or (dt_not (dt_val (de_isi (kit_tuple thing) (de_v 0 (pv 0)) rfl T.b_isinstance rfl T.b_tuple))) (fun h_1 => by have q := h_1; (try simp only [eqD_t, eqD_f, decide_eq_true_eq, decide_eq_false_iff_not, Bool.not_eq_true', Bool.not_eq_false', Bool.and_eq_true, Bool.or_eq_true, Bool.and_eq_false_iff, Bool.or_eq_false_iff, Bool.not_true, Bool.not_false, Bool.not_not, Decidable.not_not] at q); exact (dw_or1 (dt_neI (de_lenA (de_v 0 (pv 0)) (by first | exact .inl (by first | assumption | grind) | exact .inr (by first | assumption | grind)) rfl T.b_len) de_int))))) (fun c_1 => ?_) (fun c_1 => ?_)
  · have q_c_1 := c_1
    try simp only [eqD_t, eqD_f, decide_eq_true_eq, decide_eq_false_iff_not, Bool.not_eq_true', Bool.not_eq_false', Bool.and_eq_true, Bool.or_eq_true, Bool.and_eq_false_iff, Bool.or_eq_false_iff, Bool.not_true, Bool.not_false, Bool.not_not, Decidable.not_not] at q_c_1
    exact ds_retD de_bl (.inl (by first | (simp only [m_is_fraction, c_1, cond_true, cond_false, Bool.not_true, Bool.not_false, goM, goN]; first | done | rfl) | (simp only [m_is_fraction]; rw [c_1]; first | done | rfl) | (simp only [m_is_fraction]; (try dsimp only at c_1); (try simp only [c_1, cond_true, cond_false, Bool.not_true, Bool.not_false, goM, goN]); first | done | rfl)))
  have q_c_1 := c_1
  try simp only [eqD_t, eqD_f, decide_eq_true_eq, decide_eq_false_iff_not, Bool.not_eq_true', Bool.not_eq_false', Bool.and_eq_true, Bool.or_eq_true, Bool.and_eq_false_iff, Bool.or_eq_false_iff, Bool.not_true, Bool.not_false, Bool.not_not, Decidable.not_not] at q_c_1
  refine ds_ifr (DW.toT (dw_or (dt_not (dt_val (de_call (f := "is_whole") (c_is_whole.at hr) rfl (da_cons (de_ixA (de_v 0 (pv 0)) de_int (by first | exact .inl (by first | assumption | grind) | exact .inr (by first | assumption | grind)) (by exact inR_py (by decide) (by omega))) da_nil) ⟨(gx (elems thing) (0 : Int)), rfl, rfl⟩))) (fun h_3 => by have q := h_3; (try simp only [eqD_t, eqD_f, decide_eq_true_eq, decide_eq_false_iff_not, Bool.not_eq_true', Bool.not_eq_false', Bool.and_eq_true, Bool.or_eq_true, Bool.and_eq_false_iff, Bool.or_eq_false_iff, Bool.not_true, Bool.not_false, Bool.not_not, Decidable.not_not] at q); exact (dw_or (dt_not (dt_val (de_call (f := "is_whole") (c_is_whole.at hr) rfl (da_cons (de_ixA (de_v 0 (pv 0)) de_int (by first | exact .inl (by first | assumption | grind) | exact .inr (by first | assumption | grind)) (by exact inR_py (by decide) (by omega))) da_nil) ⟨(gx (elems thing) (1 : Int)), rfl, rfl⟩))) (fun h_2 => by have q := h_2; (try simp only [eqD_t, eqD_f, decide_eq_true_eq, decide_eq_false_iff_not, Bool.not_eq_true', Bool.not_eq_false', Bool.and_eq_true, Bool.or_eq_true, Bool.and_eq_false_iff, Bool.or_eq_false_iff, Bool.not_true, Bool.not_false, Bool.not_not, Decidable.not_not] at q); exact (dw_or1 (dt_lt (de_asI (de_ixA (de_v 0 (pv 0)) de_int (by first | exact .inl (by first | assumption | grind) | exact .inr (by first | assumption | grind)) (by exact inR_py (by decide) (by omega))) (by first | assumption | exact whole_of (by first | assumption | grind))) de_int))))))) (fun c_2 => ?_) (fun c_2 => ?_)
  · have q_c_2 := c_2
    try simp only [eqD_t, eqD_f, decide_eq_true_eq, decide_eq_false_iff_not, Bool.not_eq_true', Bool.not_eq_false', Bool.and_eq_true, Bool.or_eq_true, Bool.and_eq_false_iff, Bool.or_eq_false_iff, Bool.not_true, Bool.not_false, Bool.not_not, Decidable.not_not] at q_c_2
    exact ds_retD de_bl (.inl (by first | (simp only [m_is_fraction, c_1, c_2, cond_true, cond_false, Bool.not_true, Bool.not_false, goM, goN]; first | done | rfl) | (simp only [m_is_fraction]; rw [c_1, c_2]; first | done | rfl) | (simp only [m_is_fraction]; (try dsimp only at c_1); (try dsimp only at c_2); (try simp only [c_1, cond_true, cond_false, Bool.not_true, Bool.not_false, goM, goN]); (try simp only [c_2, cond_true, cond_false, Bool.not_true, Bool.not_false, goM, goN]); first | done | rfl)))
  have q_c_2 := c_2
  try simp only [eqD_t, eqD_f, decide_eq_true_eq, decide_eq_false_iff_not, Bool.not_eq_true', Bool.not_eq_false', Bool.and_eq_true, Bool.or_eq_true, Bool.and_eq_false_iff, Bool.or_eq_false_iff, Bool.not_true, Bool.not_false, Bool.not_not, Decidable.not_not] at q_c_2
  exact ds_retD (de_eqI (de_call (f := "common_part") (c_common_part.at hr) rfl (da_cons (de_asI (de_ixA (de_v 0 (pv 0)) de_int (by first | exact .inl (by first | assumption | grind) | exact .inr (by first | assumption | grind)) (by exact inR_py (by decide) (by omega))) (by first | assumption | exact whole_of (by first | assumption | grind))) (da_cons (de_asI (de_ixA (de_v 0 (pv 0)) de_int (by first | exact .inl (by first | assumption | grind) | exact .inr (by first | assumption | grind)) (by exact inR_py (by decide) (by omega))) (by first | assumption | exact whole_of (by first | assumption | grind))) da_nil)) ⟨(asI (gx (elems thing) (0 : Int))), (asI (gx (elems thing) (1 : Int))), rfl, rfl⟩) de_int) (.inl (by first | (simp only [m_is_fraction, c_1, c_2, cond_true, cond_false, Bool.not_true, Bool.not_false, goM, goN]; first | done | rfl) | (simp only [m_is_fraction]; rw [c_1, c_2]; first | done | rfl) | (simp only [m_is_fraction]; (try dsimp only at c_1); (try dsimp only at c_2); (try simp only [c_1, cond_true, cond_false, Bool.not_true, Bool.not_false, goM, goN]); (try simp only [c_2, cond_true, cond_false, Bool.not_true, Bool.not_false, goM, goN]); first | done | rfl)))
theorem isfr_frD {x : PyData} (h : m_is_fraction x = true) : isFrD x = true := by
  unfold m_is_fraction at h
  cases h1 : isTuple x with
  | false => rw [h1] at h; cases h
  | true =>
    rw [h1] at h
    by_cases h2 : pyLen x = 2
    · rw [decide_eq_true h2] at h
      cases h3 : m_is_whole (gx (elems x) 0) with
      | false => rw [h3] at h; cases h
      | true =>
        cases h4 : m_is_whole (gx (elems x) 1) with
        | false => rw [h3, h4] at h; cases h
        | true => exact frD_mk h1 h2 (whole_of h3) (whole_of h4)
    · rw [decide_eq_false h2] at h
      cases h
theorem isfr_int (a b : Int) : m_is_fraction (.tuple [.int a, .int b]) = (decide (0 < b) && decide (Int.gcd a b = 1)) := by
  have e : m_is_fraction (.tuple [.int a, .int b]) = bif decide (b < 1) then false else decide (m_common_part a b = 1) := rfl
  rw [e, m_common_part_eq]
  by_cases h : b < 1
  · rw [decide_eq_true h, decide_eq_false (show ¬ 0 < b by omega)]
    rfl
  · rw [decide_eq_false h, decide_eq_true (show 0 < b by omega)]
    show decide (((Int.gcd a b : Nat) : Int) = 1) = (true && decide (Int.gcd a b = 1))
    rw [Bool.true_and, decide_eq_decide]
    omega
theorem isfr_seq {x : PyData} (h : m_is_fraction x = true) : isTuple x = true := by
  unfold m_is_fraction at h
  cases h1 : isTuple x with
  | false => rw [h1] at h; cases h
  | true => rfl
theorem isfr_len {x : PyData} (h : m_is_fraction x = true) : pyLen x = 2 := by
  rw [asFr_eq (isfr_frD h)]
  rfl
theorem isfr_whole0 {x : PyData} (h : m_is_fraction x = true) : isWhole (gx (elems x) 0) = true := by
  rw [asFr_eq (isfr_frD h)]
  rfl
def m_is_place (thing : PySem.PyData) (many : Int) : Bool := ((m_is_whole thing) && (decide ((0 : Int) ≤ (asI thing)) && decide ((asI thing) < many)))
def r_is_place (xs : List PyData) (r : Res) : Prop := ∃ (thing : PySem.PyData) (many : Int), xs = [thing, (.int many)] ∧ r = .v (.bool (m_is_place thing many))
abbrev N_is_place : List Str := ["thing", "many"]
theorem sc_is_place : FnScope N_is_place ["thing", "many"] (defScope s_is_place) := ⟨rfl, rfl, rfl, by decide +kernel, rfl, by decide +kernel, by decide +kernel⟩
theorem ok_is_place (F : Def K mg "is_place" s_is_place ["thing", "many"]) (T : Txt K mg A) (c_is_whole : Cal P w K mg base "is_whole" 1 r_is_whole 1) : Cal P w K mg base "is_place" 2 r_is_place 2 := by
  refine cal_ok F sc_is_place rfl fun fa cdv AA outer ss HH EE X hX C hr xs r hl hR => ?_
  obtain ⟨thing, many, rfl, rfl⟩ := hR
  subst hX
  show DSs _ _ _ [.v thing, .v (.int many)] _
  exact ds_retD (de_and (de_call (f := "is_whole") (c_is_whole.at hr) rfl (da_cons (de_v 0 (pv 0)) da_nil) ⟨thing, rfl, rfl⟩) (fun h_1 => by have q := h_1; (try simp only [eqD_t, eqD_f, decide_eq_true_eq, decide_eq_false_iff_not, Bool.not_eq_true', Bool.not_eq_false', Bool.and_eq_true, Bool.or_eq_true, Bool.and_eq_false_iff, Bool.or_eq_false_iff, Bool.not_true, Bool.not_false, Bool.not_not, Decidable.not_not] at q); exact (de_one (de_chain_le_lt de_int (de_asI (de_v 0 (pv 0)) (by first | assumption | exact whole_of (by first | assumption | grind) | exact lwhole_of (by first | assumption | grind))) (de_v 1 (pv 1)))))) (.inl (by simp only [m_is_place, cond_true, cond_false, Bool.not_true, Bool.not_false, goM, goN]; try rfl))
theorem place_whole {x : PyData} {m : Int} (h : m_is_place x m = true) : isWhole x = true := by
  unfold m_is_place at h
  rw [Bool.and_eq_true] at h
  exact whole_of h.1
theorem place_int (i m : Int) : m_is_place (.int i) m = (decide (0 ≤ i) && decide (i < m)) := rfl
theorem place_odd {x : PyData} {m : Int} (h : isWhole x = false) : m_is_place x m = false := by
  cases x <;> first | rfl | cases h
def m_two_places (start : PySem.PyData) (end_v : PySem.PyData) (many : Int) : Bool := ((m_is_place start many) && ((m_is_place end_v many) && (!decide ((asI start) = (asI end_v)))))
def r_two_places (xs : List PyData) (r : Res) : Prop := ∃ (start : PySem.PyData) (end_v : PySem.PyData) (many : Int), xs = [start, end_v, (.int many)] ∧ r = .v (.bool (m_two_places start end_v many))
abbrev N_two_places : List Str := ["start", "end", "many"]
theorem sc_two_places : FnScope N_two_places ["start", "end", "many"] (defScope s_two_places) := ⟨rfl, rfl, rfl, by decide +kernel, rfl, by decide +kernel, by decide +kernel⟩
theorem ok_two_places (F : Def K mg "two_places" s_two_places ["start", "end", "many"]) (T : Txt K mg A) (c_is_place : Cal P w K mg base "is_place" 2 r_is_place 2) : Cal P w K mg base "two_places" 3 r_two_places 3 := by
  refine cal_ok F sc_two_places rfl fun fa cdv AA outer ss HH EE X hX C hr xs r hl hR => ?_
  obtain ⟨start, end_v, many, rfl, rfl⟩ := hR
  subst hX
  show DSs _ _ _ [.v start, .v end_v, .v (.int many)] _
  exact ds_retD (de_and (de_call (f := "is_place") (c_is_place.at hr) rfl (da_cons (de_v 0 (pv 0)) (da_cons (de_v 2 (pv 2)) da_nil)) ⟨start, many, rfl, rfl⟩) (fun h_2 => by have q := h_2; (try simp only [eqD_t, eqD_f, decide_eq_true_eq, decide_eq_false_iff_not, Bool.not_eq_true', Bool.not_eq_false', Bool.and_eq_true, Bool.or_eq_true, Bool.and_eq_false_iff, Bool.or_eq_false_iff, Bool.not_true, Bool.not_false, Bool.not_not, Decidable.not_not] at q); exact (de_and (de_call (f := "is_place") (c_is_place.at hr) rfl (da_cons (de_v 1 (pv 1)) (da_cons (de_v 2 (pv 2)) da_nil)) ⟨end_v, many, rfl, rfl⟩) (fun h_1 => by have q := h_1; (try simp only [eqD_t, eqD_f, decide_eq_true_eq, decide_eq_false_iff_not, Bool.not_eq_true', Bool.not_eq_false', Bool.and_eq_true, Bool.or_eq_true, Bool.and_eq_false_iff, Bool.or_eq_false_iff, Bool.not_true, Bool.not_false, Bool.not_not, Decidable.not_not] at q); exact (de_one (de_neI (de_asI (de_v 0 (pv 0)) (by first | assumption | exact place_whole (by first | assumption | grind))) (de_asI (de_v 1 (pv 1)) (by first | assumption | exact place_whole (by first | assumption | grind))))))))) (.inl (by simp only [m_two_places, cond_true, cond_false, Bool.not_true, Bool.not_false, goM, goN]; try rfl))
abbrev Rd := T5 Int Int Fr Fr Bool
def m_usable_roads (net : (Int × (List (T5 Int Int (Int × Int) (Int × Int) Bool)))) (lane : Bool) : (List Int) := (((enumL net.2).filter (fun (a_1 : (Int × (T5 Int Int (Int × Int) (Int × Int) Bool))) => (lane || (!a_1.2.e)))).map (fun (a_1 : (Int × (T5 Int Int (Int × Int) (Int × Int) Bool))) => a_1.1))
def r_usable_roads (xs : List PyData) (r : Res) : Prop := ∃ (net : (Int × (List (T5 Int Int (Int × Int) (Int × Int) Bool)))) (lane : Bool), (net.2.length ≤ 13) ∧ xs = [((eP PyData.int (eL (eT5 PyData.int PyData.int (eP PyData.int PyData.int) (eP PyData.int PyData.int) PyData.bool))) net), (.bool lane)] ∧ r = .ok ((oL PyData.int) (m_usable_roads net lane))
abbrev N_usable_roads : List Str := ["net", "lane", "number", "road"]
theorem sc_usable_roads : FnScope N_usable_roads ["net", "lane"] (defScope s_usable_roads) := ⟨rfl, rfl, rfl, by decide +kernel, rfl, by decide +kernel, by decide +kernel⟩
theorem ok_usable_roads (F : Def K mg "usable_roads" s_usable_roads ["net", "lane"]) (T : Txt K mg A)  : Cal P w K mg base "usable_roads" 2 r_usable_roads 1 := by
  refine cal_ok F sc_usable_roads rfl fun fa cdv AA outer ss HH EE X hX C hr xs r hl hR => ?_
  obtain ⟨net, lane, pre_0, rfl, rfl⟩ := hR
  subst hX
  show DSs _ _ _ [.v ((eP PyData.int (eL (eT5 PyData.int PyData.int (eP PyData.int PyData.int) (eP PyData.int PyData.int) PyData.bool))) net), .v (.bool lane), .no, .no] _
  exact ds_retN (dn_lcIf (ea := (eP PyData.int (eT5 PyData.int PyData.int (eP PyData.int PyData.int) (eP PyData.int PyData.int) PyData.bool))) (eb := PyData.int) (items := (enumL net.2)) (fun (a_1 : (Int × (T5 Int Int (Int × Int) (Int × Int) Bool))) => (lane || (!a_1.2.e))) (fun (a_1 : (Int × (T5 Int Int (Int × Int) (Int × Int) Bool))) => a_1.1) rfl sc_usable_roads.nd (di_enumL (de_it (de_v 0 (pv 0)) de_int) rfl T.b_enumerate) (blkOk_by (N := N_usable_roads) (sc := defScope s_usable_roads) (own := [("number", 2), ("road", 3)]) (by decide +kernel)) (fun _ _ _ _ _ => (tg_two rfl (tg_name (ln 2 sc_usable_roads.nd)) (tg_name (ln 3 sc_usable_roads.nd)))) (by rw [sizeLine_eq]; (rw [enumL_len]; omega)) (fun a_1 h_a_1 => ⟨[.v ((eP PyData.int (eL (eT5 PyData.int PyData.int (eP PyData.int PyData.int) (eP PyData.int PyData.int) PyData.bool))) net), .v (.bool lane), .v (.int a_1.1), .v ((eT5 PyData.int PyData.int (eP PyData.int PyData.int) (eP PyData.int PyData.int) PyData.bool) a_1.2)], rfl, fun _ _ _ _ _ => ⟨(DW.toT (dw_or (dt_val (de_v 1 (pv 1))) (fun _ => (dw_or1 (dt_not (dt_val (de_it (de_v 3 (pv 3)) de_int))))))), fun _ => (de_v 2 (pv 2))⟩⟩)) (.inl (by simp only [m_usable_roads, cond_true, cond_false, Bool.not_true, Bool.not_false, goM, goN]; try rfl))
theorem usable_mem {net : Int × List Rd} {l : Bool} {a : Int} (h : a ∈ m_usable_roads net l) : 0 ≤ a ∧ a < net.2.length := by
  unfold m_usable_roads at h
  obtain ⟨p, h1, rfl⟩ := List.mem_map.mp h
  exact enumL_mem (List.mem_filter.mp h1).1
theorem usable_len {net : Int × List Rd} {l : Bool} (h : net.2.length ≤ 12) : (m_usable_roads net l).length ≤ 12 := by
  unfold m_usable_roads
  rw [List.length_map]
  exact Nat.le_trans (List.length_filter_le ..) (by rw [enumL_len]; exact h)
theorem usable_le {net : Int × List Rd} {l : Bool} : (m_usable_roads net l).length ≤ net.2.length := by
  unfold m_usable_roads
  rw [List.length_map]
  exact Nat.le_trans (List.length_filter_le ..) (by rw [enumL_len]; exact Nat.le_refl _)
def l_reached_from_2 (k_at_v : Int) (s_2 : (List Int)) (a_3 : (T5 Int Int (Int × Int) (Int × Int) Bool)) : Go ((List Int)) Empty := (let p_1 := (bif ((decide (a_3.a = (gx s_2 k_at_v))) && (!decide (a_3.b ∈ s_2))) then (let reached_2 := (s_2 ++ [a_3.b]); reached_2) else s_2); (.nx p_1))
def l_reached_from_1 (k_some_v : (List (T5 Int Int (Int × Int) (Int × Int) Bool))) (s_1 : (List Int) × Int) : Go ((List Int) × Int) Empty := (goN (forG (l_reached_from_2 s_1.2) k_some_v s_1.1) (fun s_3 => (let at_v_1 := (s_1.2 + (1 : Int)); (.nx (s_3, at_v_1)))))
def l_reached_from_1_c (k_some_v : (List (T5 Int Int (Int × Int) (Int × Int) Bool))) (s_1 : (List Int) × Int) : Bool := (decide (s_1.2 < (s_1.1.length : Int)))
def m_reached_from (net : (Int × (List (T5 Int Int (Int × Int) (Int × Int) Bool)))) (start : Int) (lane : Bool) : (List Int) := (let some_v_1 := ((m_usable_roads net lane).map (fun (a_1 : Int) => (gx net.2 a_1))); (let reached_1 := ([start] : (List Int)); (goN (whileG (l_reached_from_1_c some_v_1) (l_reached_from_1 some_v_1) ((fun (s_1 : (List Int) × Int) => (6 - s_1.2).toNat) (reached_1, (0 : Int)) + 1) (reached_1, (0 : Int))) (fun s_4 => (sortI s_4.1)))))
structure RcI (r : List Int) : Prop where
  nd : r.Nodup
  rg : ∀ x ∈ r, 0 ≤ x ∧ x < 6
theorem RcI.le {r : List Int} (h : RcI r) : r.length ≤ 6 := nodup_len 6 r h.nd h.rg
theorem rcI_0 {s : Int} (h : 0 ≤ s ∧ s < 6) : RcI [s] := ⟨by simp, fun x hx => by rw [List.mem_singleton.mp hx]; exact h⟩
theorem ix_of {n : Nat} {i : Int} (h : 0 ≤ i ∧ i < n) : inR n i := ⟨by omega, h.2⟩
theorem some_in {net : Int × List (T5 Int Int Fr Fr Bool)} {lane : Bool} {rs : List (T5 Int Int Fr Fr Bool)} (h : ∀ r ∈ net.2, (0 ≤ r.a ∧ r.a < 6) ∧ (0 ≤ r.b ∧ r.b < 6)) (e : rs = (m_usable_roads net lane).map (fun a => gx net.2 a)) : ∀ r ∈ rs, (0 ≤ r.a ∧ r.a < 6) ∧ (0 ≤ r.b ∧ r.b < 6) := fun r hr => by
  rw [e] at hr
  obtain ⟨k, hk, rfl⟩ := List.mem_map.mp hr
  exact h _ (gx_mem (ix_of (usable_mem hk)))
theorem reached_step {k : Int} {r : List Int} {a : T5 Int Int Fr Fr Bool} (hr : (0 ≤ a.a ∧ a.a < 6) ∧ (0 ≤ a.b ∧ a.b < 6)) (h : RcI r ∧ k < (r.length : Int)) : ∃ s', l_reached_from_2 k r a = .nx s' ∧ RcI s' ∧ k < (s'.length : Int) := by
  unfold l_reached_from_2
  refine ⟨_, rfl, ?_⟩
  try simp only
  by_cases c : a.b ∈ r
  · rw [decide_eq_true c, Bool.not_true, Bool.and_false]
    exact h
  · rw [decide_eq_false c, Bool.not_false, Bool.and_true]
    cases decide (a.a = gx r k)
    · exact h
    · refine ⟨⟨List.nodup_append.mpr ⟨h.1.nd, by simp, fun x hx y hy z => ?_⟩, fun x hx => ?_⟩, ?_⟩
      · rw [List.mem_singleton.mp hy] at z; rw [z] at hx; exact c hx
      · rcases List.mem_append.mp hx with z | z
        · exact h.1.rg x z
        · rw [List.mem_singleton.mp z]; exact hr.2
      · show k < ((r ++ [a.b]).length : Int)
        rw [List.length_append]
        have := h.2
        show k < ((r.length + 1 : Nat) : Int)
        omega
theorem reached_turn {rs : List (T5 Int Int Fr Fr Bool)} {s : List Int × Int} (hs : ∀ r ∈ rs, (0 ≤ r.a ∧ r.a < 6) ∧ (0 ≤ r.b ∧ r.b < 6)) (h : RcI s.1 ∧ 0 ≤ s.2) (hc : s.2 < (s.1.length : Int)) : ∃ s', l_reached_from_1 rs s = .nx s' ∧ (RcI s'.1 ∧ 0 ≤ s'.2) ∧ (6 - s'.2).toNat < (6 - s.2).toNat := by
  obtain ⟨r, e, h1, h2⟩ := forG_inv (f := l_reached_from_2 s.2) (xs := rs) (fun _ r => RcI r ∧ s.2 < (r.length : Int)) (fun i a r ha hi => reached_step (hs a (List.mem_of_getElem? ha)) hi) (s := s.1) ⟨h.1, hc⟩
  refine ⟨(r, s.2 + 1), ?_, ⟨h1, by show 0 ≤ s.2 + 1; omega⟩, ?_⟩
  · unfold l_reached_from_1
    rw [goN_nx e]
  · have := h.1.le
    have h0 := h.2
    show (6 - (s.2 + 1)).toNat < _
    omega
def r_reached_from (xs : List PyData) (r : Res) : Prop := ∃ (net : (Int × (List (T5 Int Int (Int × Int) (Int × Int) Bool)))) (start : Int) (lane : Bool), (net.2.length ≤ 13) ∧ (∀ r ∈ net.2, (0 ≤ r.a ∧ r.a < 6) ∧ (0 ≤ r.b ∧ r.b < 6)) ∧ (0 ≤ start ∧ start < 6) ∧ xs = [((eP PyData.int (eL (eT5 PyData.int PyData.int (eP PyData.int PyData.int) (eP PyData.int PyData.int) PyData.bool))) net), (.int start), (.bool lane)] ∧ r = .ok ((oL PyData.int) (m_reached_from net start lane))
abbrev N_reached_from : List Str := ["net", "start", "lane", "some", "number", "reached", "at", "road"]
theorem sc_reached_from : FnScope N_reached_from ["net", "start", "lane"] (defScope s_reached_from) := ⟨rfl, rfl, rfl, by decide +kernel, rfl, by decide +kernel, by decide +kernel⟩
theorem ok_reached_from (F : Def K mg "reached_from" s_reached_from ["net", "start", "lane"]) (T : Txt K mg A) (c_usable_roads : Cal P w K mg base "usable_roads" 2 r_usable_roads 1) : Cal P w K mg base "reached_from" 3 r_reached_from 2 := by
  refine cal_ok F sc_reached_from rfl fun fa cdv AA outer ss HH EE X hX C hr xs r hl hR => ?_
  obtain ⟨net, start, lane, pre_0, pre_1, pre_2, rfl, rfl⟩ := hR
  subst hX
  show DSs _ _ _ [.v ((eP PyData.int (eL (eT5 PyData.int PyData.int (eP PyData.int PyData.int) (eP PyData.int PyData.int) PyData.bool))) net), .v (.int start), .v (.bool lane), .no, .no, .no, .no, .no] _
  have hrl := pre_0
  obtain ⟨some_v_1, e_some_v_1⟩ : ∃ z : (List (T5 Int Int (Int × Int) (Int × Int) Bool)), z = ((m_usable_roads net lane).map (fun (a_1 : Int) => (gx net.2 a_1))) := ⟨_, rfl⟩
  refine ds_then (E' := [.v ((eP PyData.int (eL (eT5 PyData.int PyData.int (eP PyData.int PyData.int) (eP PyData.int PyData.int) PyData.bool))) net), .v (.int start), .v (.bool lane), .o (oL (eT5 PyData.int PyData.int (eP PyData.int PyData.int) (eP PyData.int PyData.int) PyData.bool) ((m_usable_roads net lane).map (fun (a_1 : Int) => (gx net.2 a_1)))), .no, .no, .no, .no]) (ds_setLc (ea := PyData.int) (eb := (eT5 PyData.int PyData.int (eP PyData.int PyData.int) (eP PyData.int PyData.int) PyData.bool)) (items := (m_usable_roads net lane)) (fun (a_1 : Int) => (gx net.2 a_1)) (ln 3 sc_reached_from.nd) rfl (sw_true rfl rfl rfl (by decide +kernel)) rfl (di_list (DN.toL (f := PyData.int) (xs := (m_usable_roads net lane)) (dn_call (f := "usable_roads") (t := (oL PyData.int) (m_usable_roads net lane)) (c_usable_roads.at hr) rfl (da_cons (de_v 0 (pv 0)) (da_cons (de_v 2 (pv 2)) da_nil)) ⟨net, lane, (by first | omega | assumption | decide), rfl, rfl⟩))) (blkOk_by (N := N_reached_from) (sc := defScope s_reached_from) (own := [("number", 4)]) (by decide +kernel)) (fun _ _ _ _ _ => (tg_name (ln 4 sc_reached_from.nd))) (by rw [sizeLine_eq]; (have := usable_le (net := net) (l := lane); omega)) (fun a_1 h_a_1 => ⟨[.v ((eP PyData.int (eL (eT5 PyData.int PyData.int (eP PyData.int PyData.int) (eP PyData.int PyData.int) PyData.bool))) net), .v (.int start), .v (.bool lane), .no, .v (.int a_1), .no, .no, .no], rfl, fun _ _ _ _ _ => (de_ixL (f := (eT5 PyData.int PyData.int (eP PyData.int PyData.int) (eP PyData.int PyData.int) PyData.bool)) (xs := net.2) (i := a_1) (de_it (de_v 0 (pv 0)) de_int) (de_v 4 (pv 4)) (by first | first | exact ⟨by omega, by omega⟩ | exact ix_of (usable_mem (by assumption)) | (first | exact ⟨by omega, by omega⟩ | exact inR_mod (by omega) | (unfold inR; simp only [List.length_map, List.length_append, List.length_cons, List.length_nil, List.length_replicate, rng_len, sx_len]; omega))))⟩)) ?_
  rw [← e_some_v_1]
  refine ds_freezeL 3 (E' := [.v ((eP PyData.int (eL (eT5 PyData.int PyData.int (eP PyData.int PyData.int) (eP PyData.int PyData.int) PyData.bool))) net), .v (.int start), .v (.bool lane), .v ((eL (eT5 PyData.int PyData.int (eP PyData.int PyData.int) (eP PyData.int PyData.int) PyData.bool)) some_v_1), .no, .no, .no, .no]) rfl rfl ?_
  have hsm := some_in pre_1 e_some_v_1
  obtain ⟨reached_1, e_reached_1⟩ : ∃ z : (List Int), z = ([start] : (List Int)) := ⟨_, rfl⟩
  refine ds_then (E' := [.v ((eP PyData.int (eL (eT5 PyData.int PyData.int (eP PyData.int PyData.int) (eP PyData.int PyData.int) PyData.bool))) net), .v (.int start), .v (.bool lane), .v ((eL (eT5 PyData.int PyData.int (eP PyData.int PyData.int) (eP PyData.int PyData.int) PyData.bool)) some_v_1), .no, .o (oL PyData.int reached_1), .no, .no]) (ds_setN (t := oL PyData.int reached_1) (ln 5 sc_reached_from.nd) (dnC (by subst e_reached_1; rfl) (dn_lst (da_cons (de_v 1 (pv 1)) da_nil)))) ?_
  refine ds_then (E' := [.v ((eP PyData.int (eL (eT5 PyData.int PyData.int (eP PyData.int PyData.int) (eP PyData.int PyData.int) PyData.bool))) net), .v (.int start), .v (.bool lane), .v ((eL (eT5 PyData.int PyData.int (eP PyData.int PyData.int) (eP PyData.int PyData.int) PyData.bool)) some_v_1), .no, .o (oL PyData.int reached_1), .v (.int (0 : Int)), .no]) (ds_set (x := (.int (0 : Int))) (ln 6 sc_reached_from.nd) de_int) ?_
  refine ds_whileG (fun (s_1 : (List Int) × Int) => [.v ((eP PyData.int (eL (eT5 PyData.int PyData.int (eP PyData.int PyData.int) (eP PyData.int PyData.int) PyData.bool))) net), .v (.int start), .v (.bool lane), .v ((eL (eT5 PyData.int PyData.int (eP PyData.int PyData.int) (eP PyData.int PyData.int) PyData.bool)) some_v_1), .no, .o (oL PyData.int s_1.1), .v (.int s_1.2), .no]) (l_reached_from_1_c some_v_1) (l_reached_from_1 some_v_1) (fun (s_1 : (List Int) × Int) => (6 - s_1.2).toNat) (reached_1, (0 : Int)) (fun (s_1 : (List Int) × Int) => RcI s_1.1 ∧ 0 ≤ s_1.2) (fun (s_1 : (List Int) × Int) => RcI s_1.1 ∧ 0 ≤ s_1.2) (fun (_ : Empty) _ => False) C (by repeat (first | exact Le.nil | refine Le.same ?_ | refine Le.drop ?_)) (by subst e_reached_1; exact ⟨rcI_0 pre_2, Int.le_refl _⟩) ?_ ?_ (fun _ h _ => h) ?_ ?_
  · intro s_1 hi_1
    exact (dt_borrowS 5 (dat_L PyData.int) rfl (dt_lt (de_v 6 (pv 6)) (de_lenL (de_v 5 (pv 5)) rfl T.b_len)))
  · intro s_1 hi_1 c_1
    have q_c_1 : (decide (s_1.2 < (s_1.1.length : Int))) = true := c_1
    try simp only [eqD_t, eqD_f, decide_eq_true_eq, decide_eq_false_iff_not, Bool.not_eq_true', Bool.not_eq_false', Bool.and_eq_true, Bool.or_eq_true, Bool.and_eq_false_iff, Bool.or_eq_false_iff, Bool.not_true, Bool.not_false, Bool.not_not, Decidable.not_not] at q_c_1
    refine ds_forG (items := some_v_1) (ea := (eT5 PyData.int PyData.int (eP PyData.int PyData.int) (eP PyData.int PyData.int) PyData.bool)) (fun (s_2 : (List Int)) => [.v ((eP PyData.int (eL (eT5 PyData.int PyData.int (eP PyData.int PyData.int) (eP PyData.int PyData.int) PyData.bool))) net), .v (.int start), .v (.bool lane), .v ((eL (eT5 PyData.int PyData.int (eP PyData.int PyData.int) (eP PyData.int PyData.int) PyData.bool)) some_v_1), .no, .o (oL PyData.int s_2), .v (.int s_1.2), .no]) (l_reached_from_2 s_1.2) s_1.1 (fun (i_2 : Nat) (s_2 : (List Int)) => RcI s_2 ∧ s_1.2 < (s_2.length : Int)) (fun (s_2 : (List Int)) => RcI s_2 ∧ s_1.2 < (s_2.length : Int)) (fun (_ : Empty) _ => False) C (di_list (de_v 3 (pv 3))) (tg_name (ln 7 sc_reached_from.nd)) (by repeat (first | exact Le.nil | refine Le.same ?_ | refine Le.drop ?_)) (by exact ⟨hi_1.1, by omega⟩) ?_ (fun _ h => h) ?_ ?_
    · intro i_2 a_3 s_2 ha_2 hi_2
      refine ⟨[.v ((eP PyData.int (eL (eT5 PyData.int PyData.int (eP PyData.int PyData.int) (eP PyData.int PyData.int) PyData.bool))) net), .v (.int start), .v (.bool lane), .v ((eL (eT5 PyData.int PyData.int (eP PyData.int PyData.int) (eP PyData.int PyData.int) PyData.bool)) some_v_1), .no, .o (oL PyData.int s_2), .v (.int s_1.2), .v ((eT5 PyData.int PyData.int (eP PyData.int PyData.int) (eP PyData.int PyData.int) PyData.bool) a_3)], rfl, ?_⟩
      have hr := hsm a_3 (List.mem_of_getElem? ha_2)
      obtain ⟨p_1, e_p_1⟩ : ∃ z : (List Int), z = (bif ((decide (a_3.a = (gx s_2 s_1.2))) && (!decide (a_3.b ∈ s_2))) then (let reached_2 := (s_2 ++ [a_3.b]); reached_2) else s_2) := ⟨_, rfl⟩
      try dsimp only at e_p_1
      refine ds_ifl (E' := [.v ((eP PyData.int (eL (eT5 PyData.int PyData.int (eP PyData.int PyData.int) (eP PyData.int PyData.int) PyData.bool))) net), .v (.int start), .v (.bool lane), .v ((eL (eT5 PyData.int PyData.int (eP PyData.int PyData.int) (eP PyData.int PyData.int) PyData.bool)) some_v_1), .no, .o (oL PyData.int p_1), .v (.int s_1.2), .v ((eT5 PyData.int PyData.int (eP PyData.int PyData.int) (eP PyData.int PyData.int) PyData.bool) a_3)]) (dt_borrowS 5 (dat_L PyData.int) rfl (DW.toT (dw_and (dt_eqI (de_it (de_v 7 (pv 7)) de_int) (de_ixL (de_v 5 (pv 5)) (de_v 6 (pv 6)) (by first | first | exact ⟨by omega, by omega⟩ | exact ix_of (usable_mem (by assumption)) | (first | exact ⟨by omega, by omega⟩ | exact inR_mod (by omega) | (unfold inR; simp only [List.length_map, List.length_append, List.length_cons, List.length_nil, List.length_replicate, rng_len, sx_len]; omega))))) (fun _ => (dw_and1 (dt_niI (de_it (de_v 7 (pv 7)) de_int) (de_v 5 (pv 5)))))))) (fun c_2 => ?_) (fun c_2 => ?_) ?_
      · have q_c_2 := c_2
        try simp only [eqD_t, eqD_f, decide_eq_true_eq, decide_eq_false_iff_not, Bool.not_eq_true', Bool.not_eq_false', Bool.and_eq_true, Bool.or_eq_true, Bool.and_eq_false_iff, Bool.or_eq_false_iff, Bool.not_true, Bool.not_false, Bool.not_not, Decidable.not_not] at q_c_2
        obtain ⟨reached_2, e_reached_2⟩ : ∃ z : (List Int), z = (s_2 ++ [a_3.b]) := ⟨_, rfl⟩
        refine ds_then (E' := [.v ((eP PyData.int (eL (eT5 PyData.int PyData.int (eP PyData.int PyData.int) (eP PyData.int PyData.int) PyData.bool))) net), .v (.int start), .v (.bool lane), .v ((eL (eT5 PyData.int PyData.int (eP PyData.int PyData.int) (eP PyData.int PyData.int) PyData.bool)) some_v_1), .no, .o (oL PyData.int reached_2), .v (.int s_1.2), .v ((eT5 PyData.int PyData.int (eP PyData.int PyData.int) (eP PyData.int PyData.int) PyData.bool) a_3)]) (ds_appendL (f := PyData.int) (v := a_3.b) (xs := s_2) (fun _ => pv 5) (de_it (de_v 7 (pv 7)) de_int) rfl (by rw [sizeLine_eq]; (have h7 := hi_2.1.le; omega)) (by subst e_reached_2; rfl)) ?_
        exact ds_nil (by subst e_p_1 e_reached_2; (try simp only [c_2, cond_true, cond_false, Bool.not_true, Bool.not_false, goM, goN]); (show Le _ _); repeat (first | exact Le.nil | refine Le.same ?_ | refine Le.drop ?_))
      · have q_c_2 := c_2
        try simp only [eqD_t, eqD_f, decide_eq_true_eq, decide_eq_false_iff_not, Bool.not_eq_true', Bool.not_eq_false', Bool.and_eq_true, Bool.or_eq_true, Bool.and_eq_false_iff, Bool.or_eq_false_iff, Bool.not_true, Bool.not_false, Bool.not_not, Decidable.not_not] at q_c_2
        exact ds_nil (by subst e_p_1; (try simp only [c_2, cond_true, cond_false, Bool.not_true, Bool.not_false, goM, goN]); (show Le _ _); repeat (first | exact Le.nil | refine Le.same ?_ | refine Le.drop ?_))
      exact ds_nil ⟨p_1, (by subst e_some_v_1 e_reached_1 e_p_1; simp only [l_reached_from_2, cond_true, cond_false, Bool.not_true, Bool.not_false, goM, goN]; try rfl), (by repeat (first | exact Le.nil | refine Le.same ?_ | refine Le.drop ?_)), (by have hz := go_inv (v := p_1) (reached_step hr hi_2) (by subst e_some_v_1 e_reached_1 e_p_1; simp only [l_reached_from_2, cond_true, cond_false, Bool.not_true, Bool.not_false, goM, goN]; try rfl); exact hz)⟩
    · intro r o f_1 ho hr_
      exact r.elim
    intro s_3 f_1 hi_2
    obtain ⟨at_v_1, e_at_v_1⟩ : ∃ z : Int, z = (s_1.2 + (1 : Int)) := ⟨_, rfl⟩
    refine ds_then (E' := [.v ((eP PyData.int (eL (eT5 PyData.int PyData.int (eP PyData.int PyData.int) (eP PyData.int PyData.int) PyData.bool))) net), .v (.int start), .v (.bool lane), .v ((eL (eT5 PyData.int PyData.int (eP PyData.int PyData.int) (eP PyData.int PyData.int) PyData.bool)) some_v_1), .no, .o (oL PyData.int s_3), .v (.int at_v_1), .no]) (ds_aug ip_add (ln 6 sc_reached_from.nd) de_int rfl (by subst e_at_v_1; rfl)) ?_
    exact ds_nil ⟨(s_3, at_v_1), (by subst e_some_v_1 e_reached_1 e_at_v_1; first | (simp only [l_reached_from_1, f_1, cond_true, cond_false, Bool.not_true, Bool.not_false, goM, goN]; first | done | rfl) | (simp only [l_reached_from_1]; rw [f_1]; first | done | rfl) | (simp only [l_reached_from_1]; (try dsimp only at f_1); (try simp only [f_1, cond_true, cond_false, Bool.not_true, Bool.not_false, goM, goN]); first | done | rfl)), (by repeat (first | exact Le.nil | refine Le.same ?_ | refine Le.drop ?_)), (by have hz := go_inv (v := (s_3, at_v_1)) (reached_turn hsm hi_1 (by omega)) (by subst e_some_v_1 e_reached_1 e_at_v_1; first | (simp only [l_reached_from_1, f_1, cond_true, cond_false, Bool.not_true, Bool.not_false, goM, goN]; first | done | rfl) | (simp only [l_reached_from_1]; rw [f_1]; first | done | rfl) | (simp only [l_reached_from_1]; (try dsimp only at f_1); (try simp only [f_1, cond_true, cond_false, Bool.not_true, Bool.not_false, goM, goN]); first | done | rfl)); exact ⟨hz.1, hz.2⟩)⟩
  · intro r o f_2 ho hr_
    exact r.elim
  intro s_4 f_2 hi_1
  refine ds_freezeL 5 (E' := [.v ((eP PyData.int (eL (eT5 PyData.int PyData.int (eP PyData.int PyData.int) (eP PyData.int PyData.int) PyData.bool))) net), .v (.int start), .v (.bool lane), .v ((eL (eT5 PyData.int PyData.int (eP PyData.int PyData.int) (eP PyData.int PyData.int) PyData.bool)) some_v_1), .no, .v ((eL PyData.int) s_4.1), .v (.int s_4.2), .no]) rfl rfl ?_
  exact ds_retN (dn_sortI hr.units (de_v 5 (pv 5)) rfl T.b_sorted) (.inl (by subst e_some_v_1 e_reached_1; first | (simp only [m_reached_from, f_2, cond_true, cond_false, Bool.not_true, Bool.not_false, goM, goN]; first | done | rfl) | (simp only [m_reached_from]; rw [f_2]; first | done | rfl) | (simp only [m_reached_from]; (try dsimp only at f_2); (try simp only [f_2, cond_true, cond_false, Bool.not_true, Bool.not_false, goM, goN]); first | done | rfl)))
def l_ways_between_2 (k_net : (Int × (List (T5 Int Int (Int × Int) (Int × Int) Bool)))) (k_end_v : Int) (k_way : (List Int)) (k_seen : (List Int)) (s_2 : (List (List Int)) × (List ((List Int) × (List Int)))) (a_3 : Int) : Go ((List (List Int)) × (List ((List Int) × (List Int)))) Empty := (let road_1 := (gx k_net.2 a_3); (let p_1 := (bif ((decide (road_1.a = (gx k_seen (-(1 : Int))))) && (decide (road_1.b = k_end_v))) then (let found_1 := (s_2.1 ++ [(k_way ++ ([a_3] : (List Int)))]); (found_1, s_2.2)) else (let p_2 := (bif ((decide (road_1.a = (gx k_seen (-(1 : Int))))) && (!decide (road_1.b ∈ k_seen))) then (let begun_3 := (s_2.2 ++ [((k_way ++ ([a_3] : (List Int))), (k_seen ++ ([road_1.b] : (List Int))))]); begun_3) else s_2.2); (s_2.1, p_2))); (.nx (p_1.1, p_1.2))))
def l_ways_between_1 (k_net : (Int × (List (T5 Int Int (Int × Int) (Int × Int) Bool)))) (k_end_v : Int) (k_some_v : (List Int)) (s_1 : (List (List Int)) × (List ((List Int) × (List Int)))) : Go ((List (List Int)) × (List ((List Int) × (List Int)))) Empty := (let begun_2 := s_1.2.dropLast; let a_2 := s_1.2.getLastD default; (goN (forG (l_ways_between_2 k_net k_end_v a_2.1 a_2.2) k_some_v (s_1.1, begun_2)) (fun s_3 => (.nx (s_3.1, s_3.2)))))
def l_ways_between_1_c (k_net : (Int × (List (T5 Int Int (Int × Int) (Int × Int) Bool)))) (k_end_v : Int) (k_some_v : (List Int)) (s_1 : (List (List Int)) × (List ((List Int) × (List Int)))) : Bool := (!eqD s_1.2 ([] : (List ((List Int) × (List Int)))))
def m_ways_between (net : (Int × (List (T5 Int Int (Int × Int) (Int × Int) Bool)))) (start : Int) (end_v : Int) (lane : Bool) : (List (List Int)) := (let some_v_1 := (m_usable_roads net lane); (let begun_1 := ([(([] : (List Int)), ([start] : (List Int)))] : (List ((List Int) × (List Int)))); (goN (whileG (l_ways_between_1_c net end_v some_v_1) (l_ways_between_1 net end_v some_v_1) ((fun (s_1 : (List (List Int)) × (List ((List Int) × (List Int)))) => tw (s_1.1, s_1.2)) (([] : (List (List Int))), begun_1) + 1) (([] : (List (List Int))), begun_1)) (fun s_4 => (sortL s_4.1)))))
theorem wb_one (net : Int × List (T5 Int Int Fr Fr Bool)) (e : Int) (p : Pth) (s : DSt) (k : Int) : l_ways_between_2 net e p.1 p.2 s k = .nx (stp e p s (k, (gx net.2 k).a, (gx net.2 k).b)) := by
  unfold l_ways_between_2 stp
  simp only
  generalize gx net.2 k = r
  by_cases c1 : r.a = gx p.2 (-1) <;> by_cases c2 : r.b = e <;> by_cases c3 : r.b ∈ p.2 <;> simp [c1, c2, c3]
theorem ways_between_step {net : Int × List (T5 Int Int Fr Fr Bool)} {e : Int} {s0 s : DSt} {p : Pth} {k : Int} {i : Nat} (hr : 0 ≤ (gx net.2 k).b ∧ (gx net.2 k).b < 6) (h : BiI s0 p (((i : Nat) : Int)).toNat s) : ∃ s', l_ways_between_2 net e p.1 p.2 s k = .nx s' ∧ BiI s0 p ((((i + 1 : Nat)) : Int)).toNat s' :=
  ⟨_, wb_one net e p s k, h.step (q := (k, (gx net.2 k).a, (gx net.2 k).b)) hr⟩
theorem wb_turn (net : Int × List (T5 Int Int Fr Fr Bool)) (e : Int) (lane : Bool) (s : DSt) : l_ways_between_1 net e (m_usable_roads net lane) s = dfsT e (usb net.2 lane) s := by
  unfold l_ways_between_1 dfsT
  simp only
  rw [goN_nx (forG_pure (g := fun (s' : DSt) k => stp e (s.2.getLastD default) s' (k, (gx net.2 k).a, (gx net.2 k).b)) _ (fun a _ s => wb_one net e _ s a) _)]
  exact congrArg Go.nx (usb_foldB (stp e _) net.2 lane _)
theorem ways_between_turn {net : Int × List (T5 Int Int Fr Fr Bool)} {e : Int} {lane : Bool} {s : DSt} (h1 : net.2.length ≤ 13) (h2 : ∀ r ∈ net.2, (0 ≤ r.a ∧ r.a < 6) ∧ (0 ≤ r.b ∧ r.b < 6)) (hs : BgI s) (hc : ¬ s.2 = []) : ∃ s', l_ways_between_1 net e (m_usable_roads net lane) s = .nx s' ∧ BgI s' ∧ tw s' < tw s := by
  rw [wb_turn]
  exact dfs_turn (usb_us h1 fun r hr => (h2 r hr).2) hs hc
def r_ways_between (xs : List PyData) (r : Res) : Prop := ∃ (net : (Int × (List (T5 Int Int (Int × Int) (Int × Int) Bool)))) (start : Int) (end_v : Int) (lane : Bool), (net.2.length ≤ 13) ∧ (∀ r ∈ net.2, (0 ≤ r.a ∧ r.a < 6) ∧ (0 ≤ r.b ∧ r.b < 6)) ∧ (0 ≤ start ∧ start < 6) ∧ xs = [((eP PyData.int (eL (eT5 PyData.int PyData.int (eP PyData.int PyData.int) (eP PyData.int PyData.int) PyData.bool))) net), (.int start), (.int end_v), (.bool lane)] ∧ r = .ok ((oS (oL PyData.int)) (m_ways_between net start end_v lane))
abbrev N_ways_between : List Str := ["net", "start", "end", "lane", "some", "found", "begun", "way", "seen", "number", "road"]
theorem sc_ways_between : FnScope N_ways_between ["net", "start", "end", "lane"] (defScope s_ways_between) := ⟨rfl, rfl, rfl, by decide +kernel, rfl, by decide +kernel, by decide +kernel⟩
theorem ok_ways_between (F : Def K mg "ways_between" s_ways_between ["net", "start", "end", "lane"]) (T : Txt K mg A) (c_usable_roads : Cal P w K mg base "usable_roads" 2 r_usable_roads 1) : Cal P w K mg base "ways_between" 4 r_ways_between 2 := by
  refine cal_ok F sc_ways_between rfl fun fa cdv AA outer ss HH EE X hX C hr xs r hl hR => ?_
  obtain ⟨net, start, end_v, lane, pre_0, pre_1, pre_2, rfl, rfl⟩ := hR
  subst hX
  show DSs _ _ _ [.v ((eP PyData.int (eL (eT5 PyData.int PyData.int (eP PyData.int PyData.int) (eP PyData.int PyData.int) PyData.bool))) net), .v (.int start), .v (.int end_v), .v (.bool lane), .no, .no, .no, .no, .no, .no, .no] _
  have hrl := pre_0
  obtain ⟨some_v_1, e_some_v_1⟩ : ∃ z : (List Int), z = (m_usable_roads net lane) := ⟨_, rfl⟩
  refine ds_then (E' := [.v ((eP PyData.int (eL (eT5 PyData.int PyData.int (eP PyData.int PyData.int) (eP PyData.int PyData.int) PyData.bool))) net), .v (.int start), .v (.int end_v), .v (.bool lane), .v ((eL PyData.int) some_v_1), .no, .no, .no, .no, .no, .no]) (ds_set (x := ((eL PyData.int) some_v_1)) (ln 4 sc_ways_between.nd) (deC (by subst e_some_v_1; rfl) (DN.toL (f := PyData.int) (xs := (m_usable_roads net lane)) (dn_call (f := "usable_roads") (t := (oL PyData.int) (m_usable_roads net lane)) (c_usable_roads.at hr) rfl (da_cons (de_v 0 (pv 0)) (da_cons (de_v 3 (pv 3)) da_nil)) ⟨net, lane, (by first | omega | assumption | decide), rfl, rfl⟩)))) ?_
  have hsl : some_v_1.length ≤ net.2.length := e_some_v_1 ▸ usable_le
  refine ds_then (E' := [.v ((eP PyData.int (eL (eT5 PyData.int PyData.int (eP PyData.int PyData.int) (eP PyData.int PyData.int) PyData.bool))) net), .v (.int start), .v (.int end_v), .v (.bool lane), .v ((eL PyData.int) some_v_1), .o (oS (oL PyData.int) ([] : (List (List Int)))), .no, .no, .no, .no, .no]) (ds_setN (t := oS (oL PyData.int) []) (ln 5 sc_ways_between.nd) (dn_lstO dna_nil)) ?_
  obtain ⟨begun_1, e_begun_1⟩ : ∃ z : (List ((List Int) × (List Int))), z = ([(([] : (List Int)), ([start] : (List Int)))] : (List ((List Int) × (List Int)))) := ⟨_, rfl⟩
  refine ds_then (E' := [.v ((eP PyData.int (eL (eT5 PyData.int PyData.int (eP PyData.int PyData.int) (eP PyData.int PyData.int) PyData.bool))) net), .v (.int start), .v (.int end_v), .v (.bool lane), .v ((eL PyData.int) some_v_1), .o (oS (oL PyData.int) ([] : (List (List Int)))), .o (oL (eP (eL PyData.int) (eL PyData.int)) begun_1), .no, .no, .no, .no]) (ds_setN (t := oL (eP (eL PyData.int) (eL PyData.int)) begun_1) (ln 6 sc_ways_between.nd) (dnC (by subst e_begun_1; rfl) (dn_lst (da_cons (DN.toPL (f := (eL PyData.int)) (g := PyData.int) (v := (([] : (List Int)), ([start] : (List Int)))) (dn_pair (f := (eL PyData.int)) (g := PyData.int) (x := ([] : (List Int))) (ys := ([start] : (List Int))) (DN.toL (f := PyData.int) (xs := ([] : (List Int))) (dn_lst da_nil)) (dn_lst (da_cons (de_v 1 (pv 1)) da_nil)))) da_nil)))) ?_
  refine ds_whileG (fun (s_1 : (List (List Int)) × (List ((List Int) × (List Int)))) => [.v ((eP PyData.int (eL (eT5 PyData.int PyData.int (eP PyData.int PyData.int) (eP PyData.int PyData.int) PyData.bool))) net), .v (.int start), .v (.int end_v), .v (.bool lane), .v ((eL PyData.int) some_v_1), .o (oS (oL PyData.int) s_1.1), .o (oL (eP (eL PyData.int) (eL PyData.int)) s_1.2), .no, .no, .no, .no]) (l_ways_between_1_c net end_v some_v_1) (l_ways_between_1 net end_v some_v_1) (fun (s_1 : (List (List Int)) × (List ((List Int) × (List Int)))) => tw (s_1.1, s_1.2)) (([] : (List (List Int))), begun_1) (fun (s_1 : (List (List Int)) × (List ((List Int) × (List Int)))) => BgI (s_1.1, s_1.2)) (fun (s_1 : (List (List Int)) × (List ((List Int) × (List Int)))) => BgI (s_1.1, s_1.2)) (fun (_ : Empty) _ => False) C (by repeat (first | exact Le.nil | refine Le.same ?_ | refine Le.drop ?_)) (by subst e_begun_1; exact bgI_0 pre_2) ?_ ?_ (fun _ h _ => h) ?_ ?_
  · intro s_1 hi_1
    exact (dt_borrowS 6 (dat_L (eP (eL PyData.int) (eL PyData.int))) rfl (dt_neU (x := s_1.2) (y := ([] : (List ((List Int) × (List Int))))) hr.units (eqE_L (eqE_P (eqE_L eqE_int) (eqE_L eqE_int))) (de_v 6 (pv 6)) (DN.toL (f := (eP (eL PyData.int) (eL PyData.int))) (xs := ([] : (List ((List Int) × (List Int))))) (dn_lst da_nil))))
  · intro s_1 hi_1 c_1
    have q_c_1 : (!eqD s_1.2 ([] : (List ((List Int) × (List Int))))) = true := c_1
    try simp only [eqD_t, eqD_f, decide_eq_true_eq, decide_eq_false_iff_not, Bool.not_eq_true', Bool.not_eq_false', Bool.and_eq_true, Bool.or_eq_true, Bool.and_eq_false_iff, Bool.or_eq_false_iff, Bool.not_true, Bool.not_false, Bool.not_not, Decidable.not_not] at q_c_1
    obtain ⟨begun_2, a_2, e_begun_2⟩ : ∃ (u : (List ((List Int) × (List Int)))) (z : ((List Int) × (List Int))), s_1.2 = u ++ [z] := (by exact snoc_of (by assumption))
    rw [e_begun_2]
    refine ds_then (E' := [.v ((eP PyData.int (eL (eT5 PyData.int PyData.int (eP PyData.int PyData.int) (eP PyData.int PyData.int) PyData.bool))) net), .v (.int start), .v (.int end_v), .v (.bool lane), .v ((eL PyData.int) some_v_1), .o (oS (oL PyData.int) s_1.1), .o (oL (eP (eL PyData.int) (eL PyData.int)) begun_2), .v ((eL PyData.int) a_2.1), .v ((eL PyData.int) a_2.2), .no, .no]) (ds_pop (f := (eP (eL PyData.int) (eL PyData.int))) (xs := begun_2) (v := a_2) (fun _ => pv 6) (tg_two rfl (tg_name (ln 7 sc_ways_between.nd)) (tg_name (ln 8 sc_ways_between.nd))) rfl) ?_
    refine ds_forG (items := some_v_1) (ea := PyData.int) (fun (s_2 : (List (List Int)) × (List ((List Int) × (List Int)))) => [.v ((eP PyData.int (eL (eT5 PyData.int PyData.int (eP PyData.int PyData.int) (eP PyData.int PyData.int) PyData.bool))) net), .v (.int start), .v (.int end_v), .v (.bool lane), .v ((eL PyData.int) some_v_1), .o (oS (oL PyData.int) s_2.1), .o (oL (eP (eL PyData.int) (eL PyData.int)) s_2.2), .v ((eL PyData.int) a_2.1), .v ((eL PyData.int) a_2.2), .no, .no]) (l_ways_between_2 net end_v a_2.1 a_2.2) (s_1.1, begun_2) (fun (i_2 : Nat) (s_2 : (List (List Int)) × (List ((List Int) × (List Int)))) => BiI (s_1.1, begun_2) a_2 (i_2 : Int).toNat (s_2.1, s_2.2)) (fun (s_2 : (List (List Int)) × (List ((List Int) × (List Int)))) => BiI (s_1.1, begun_2) a_2 ((some_v_1).length : Int).toNat (s_2.1, s_2.2)) (fun (_ : Empty) _ => False) C (di_list (de_v 4 (pv 4))) (tg_name (ln 9 sc_ways_between.nd)) (by repeat (first | exact Le.nil | refine Le.same ?_ | refine Le.drop ?_)) (by exact biI_0 (by rw [← e_begun_2]; exact hi_1)) ?_ (fun _ h => h) ?_ ?_
    · intro i_2 a_3 s_2 ha_2 hi_2
      refine ⟨[.v ((eP PyData.int (eL (eT5 PyData.int PyData.int (eP PyData.int PyData.int) (eP PyData.int PyData.int) PyData.bool))) net), .v (.int start), .v (.int end_v), .v (.bool lane), .v ((eL PyData.int) some_v_1), .o (oS (oL PyData.int) s_2.1), .o (oL (eP (eL PyData.int) (eL PyData.int)) s_2.2), .v ((eL PyData.int) a_2.1), .v ((eL PyData.int) a_2.2), .v (.int a_3), .no], rfl, ?_⟩
      have hpz := hi_2
      have hui := usable_mem (List.mem_of_getElem? (e_some_v_1 ▸ ha_2))
      have hr := (pre_1 _ (gx_mem (xs := net.2) (i := a_3) (ix_of hui))).2
      have hli := get_lt ha_2
      obtain ⟨road_1, e_road_1⟩ : ∃ z : (T5 Int Int (Int × Int) (Int × Int) Bool), z = (gx net.2 a_3) := ⟨_, rfl⟩
      refine ds_then (E' := [.v ((eP PyData.int (eL (eT5 PyData.int PyData.int (eP PyData.int PyData.int) (eP PyData.int PyData.int) PyData.bool))) net), .v (.int start), .v (.int end_v), .v (.bool lane), .v ((eL PyData.int) some_v_1), .o (oS (oL PyData.int) s_2.1), .o (oL (eP (eL PyData.int) (eL PyData.int)) s_2.2), .v ((eL PyData.int) a_2.1), .v ((eL PyData.int) a_2.2), .v (.int a_3), .v ((eT5 PyData.int PyData.int (eP PyData.int PyData.int) (eP PyData.int PyData.int) PyData.bool) road_1)]) (ds_set (x := ((eT5 PyData.int PyData.int (eP PyData.int PyData.int) (eP PyData.int PyData.int) PyData.bool) road_1)) (ln 10 sc_ways_between.nd) (deC (by subst e_road_1; rfl) (de_ixL (f := (eT5 PyData.int PyData.int (eP PyData.int PyData.int) (eP PyData.int PyData.int) PyData.bool)) (xs := net.2) (i := a_3) (de_it (de_v 0 (pv 0)) de_int) (de_v 9 (pv 9)) (by first | exact ⟨by have := hpz.pp.pos; omega, by have := hpz.pp.pos; omega⟩ | (first | exact ⟨by omega, by omega⟩ | exact inR_mod (by omega) | (unfold inR; simp only [List.length_map, List.length_append, List.length_cons, List.length_nil, List.length_replicate, rng_len, sx_len]; omega)))))) ?_
      obtain ⟨p_1, e_p_1⟩ : ∃ z : (List (List Int)) × (List ((List Int) × (List Int))), z = (bif ((decide (road_1.a = (gx a_2.2 (-(1 : Int))))) && (decide (road_1.b = end_v))) then (let found_1 := (s_2.1 ++ [(a_2.1 ++ ([a_3] : (List Int)))]); (found_1, s_2.2)) else (let p_2 := (bif ((decide (road_1.a = (gx a_2.2 (-(1 : Int))))) && (!decide (road_1.b ∈ a_2.2))) then (let begun_3 := (s_2.2 ++ [((a_2.1 ++ ([a_3] : (List Int))), (a_2.2 ++ ([road_1.b] : (List Int))))]); begun_3) else s_2.2); (s_2.1, p_2))) := ⟨_, rfl⟩
      try dsimp only at e_p_1
      refine ds_ifl (E' := [.v ((eP PyData.int (eL (eT5 PyData.int PyData.int (eP PyData.int PyData.int) (eP PyData.int PyData.int) PyData.bool))) net), .v (.int start), .v (.int end_v), .v (.bool lane), .v ((eL PyData.int) some_v_1), .o (oS (oL PyData.int) p_1.1), .o (oL (eP (eL PyData.int) (eL PyData.int)) p_1.2), .v ((eL PyData.int) a_2.1), .v ((eL PyData.int) a_2.2), .v (.int a_3), .v ((eT5 PyData.int PyData.int (eP PyData.int PyData.int) (eP PyData.int PyData.int) PyData.bool) road_1)]) (DW.toT (dw_and (dt_eqI (de_it (de_v 10 (pv 10)) de_int) (de_ixL (de_v 8 (pv 8)) (de_neg de_int) (by first | exact ⟨by have := hpz.pp.pos; omega, by have := hpz.pp.pos; omega⟩ | (first | exact ⟨by omega, by omega⟩ | exact inR_mod (by omega) | (unfold inR; simp only [List.length_map, List.length_append, List.length_cons, List.length_nil, List.length_replicate, rng_len, sx_len]; omega))))) (fun _ => (dw_and1 (dt_eqI (de_it (de_v 10 (pv 10)) de_int) (de_v 2 (pv 2))))))) (fun c_2 => ?_) (fun c_2 => ?_) ?_
      · have q_c_2 := c_2
        try simp only [eqD_t, eqD_f, decide_eq_true_eq, decide_eq_false_iff_not, Bool.not_eq_true', Bool.not_eq_false', Bool.and_eq_true, Bool.or_eq_true, Bool.and_eq_false_iff, Bool.or_eq_false_iff, Bool.not_true, Bool.not_false, Bool.not_not, Decidable.not_not] at q_c_2
        obtain ⟨found_1, e_found_1⟩ : ∃ z : (List (List Int)), z = (s_2.1 ++ [(a_2.1 ++ ([a_3] : (List Int)))]) := ⟨_, rfl⟩
        refine ds_then (E' := [.v ((eP PyData.int (eL (eT5 PyData.int PyData.int (eP PyData.int PyData.int) (eP PyData.int PyData.int) PyData.bool))) net), .v (.int start), .v (.int end_v), .v (.bool lane), .v ((eL PyData.int) some_v_1), .o (oS (oL PyData.int) found_1), .o (oL (eP (eL PyData.int) (eL PyData.int)) s_2.2), .v ((eL PyData.int) a_2.1), .v ((eL PyData.int) a_2.2), .v (.int a_3), .v ((eT5 PyData.int PyData.int (eP PyData.int PyData.int) (eP PyData.int PyData.int) PyData.bool) road_1)]) (ds_appendS (g := oL PyData.int) (y := (a_2.1 ++ ([a_3] : (List Int)))) (v := s_2.1) 5 (fun _ => pv 5) (dn_catL (de_v 7 (pv 7)) (DN.toL (f := PyData.int) (xs := ([a_3] : (List Int))) (dn_lst (da_cons (de_v 9 (pv 9)) da_nil))) (by rw [sizeLine_eq]; first | omega | (have h5 := hpz.pp.le; have h6 := hpz.pp.ln; simp only [List.length_cons, List.length_nil]; omega) | (simp only [List.length_append, List.length_cons, List.length_nil, List.length_map, List.length_replicate]; omega))) rfl (by rw [sizeLine_eq]; (first | exact Nat.lt_of_le_of_lt (hpz.l1 (by omega)).1 (by decide) | exact Nat.lt_of_le_of_lt (hpz.l1 (by omega)).2 (by decide))) (by subst e_found_1; rfl)) ?_
        exact ds_nil (by subst e_p_1 e_found_1; (try simp only [e_begun_2, c_2, cond_true, cond_false, Bool.not_true, Bool.not_false, goM, goN]); (show Le _ _); repeat (first | exact Le.nil | refine Le.same ?_ | refine Le.drop ?_))
      · have q_c_2 := c_2
        try simp only [eqD_t, eqD_f, decide_eq_true_eq, decide_eq_false_iff_not, Bool.not_eq_true', Bool.not_eq_false', Bool.and_eq_true, Bool.or_eq_true, Bool.and_eq_false_iff, Bool.or_eq_false_iff, Bool.not_true, Bool.not_false, Bool.not_not, Decidable.not_not] at q_c_2
        obtain ⟨p_2, e_p_2⟩ : ∃ z : (List ((List Int) × (List Int))), z = (bif ((decide (road_1.a = (gx a_2.2 (-(1 : Int))))) && (!decide (road_1.b ∈ a_2.2))) then (let begun_3 := (s_2.2 ++ [((a_2.1 ++ ([a_3] : (List Int))), (a_2.2 ++ ([road_1.b] : (List Int))))]); begun_3) else s_2.2) := ⟨_, rfl⟩
        try dsimp only at e_p_2
        refine ds_ifl (E' := [.v ((eP PyData.int (eL (eT5 PyData.int PyData.int (eP PyData.int PyData.int) (eP PyData.int PyData.int) PyData.bool))) net), .v (.int start), .v (.int end_v), .v (.bool lane), .v ((eL PyData.int) some_v_1), .o (oS (oL PyData.int) s_2.1), .o (oL (eP (eL PyData.int) (eL PyData.int)) p_2), .v ((eL PyData.int) a_2.1), .v ((eL PyData.int) a_2.2), .v (.int a_3), .v ((eT5 PyData.int PyData.int (eP PyData.int PyData.int) (eP PyData.int PyData.int) PyData.bool) road_1)]) (DW.toT (dw_and (dt_eqI (de_it (de_v 10 (pv 10)) de_int) (de_ixL (de_v 8 (pv 8)) (de_neg de_int) (by first | exact ⟨by have := hpz.pp.pos; omega, by have := hpz.pp.pos; omega⟩ | (first | exact ⟨by omega, by omega⟩ | exact inR_mod (by omega) | (unfold inR; simp only [List.length_map, List.length_append, List.length_cons, List.length_nil, List.length_replicate, rng_len, sx_len]; omega))))) (fun _ => (dw_and1 (dt_niI (de_it (de_v 10 (pv 10)) de_int) (de_v 8 (pv 8))))))) (fun c_3 => ?_) (fun c_3 => ?_) ?_
        · have q_c_3 := c_3
          try simp only [eqD_t, eqD_f, decide_eq_true_eq, decide_eq_false_iff_not, Bool.not_eq_true', Bool.not_eq_false', Bool.and_eq_true, Bool.or_eq_true, Bool.and_eq_false_iff, Bool.or_eq_false_iff, Bool.not_true, Bool.not_false, Bool.not_not, Decidable.not_not] at q_c_3
          obtain ⟨begun_3, e_begun_3⟩ : ∃ z : (List ((List Int) × (List Int))), z = (s_2.2 ++ [((a_2.1 ++ ([a_3] : (List Int))), (a_2.2 ++ ([road_1.b] : (List Int))))]) := ⟨_, rfl⟩
          refine ds_then (E' := [.v ((eP PyData.int (eL (eT5 PyData.int PyData.int (eP PyData.int PyData.int) (eP PyData.int PyData.int) PyData.bool))) net), .v (.int start), .v (.int end_v), .v (.bool lane), .v ((eL PyData.int) some_v_1), .o (oS (oL PyData.int) s_2.1), .o (oL (eP (eL PyData.int) (eL PyData.int)) begun_3), .v ((eL PyData.int) a_2.1), .v ((eL PyData.int) a_2.2), .v (.int a_3), .v ((eT5 PyData.int PyData.int (eP PyData.int PyData.int) (eP PyData.int PyData.int) PyData.bool) road_1)]) (ds_appendL (f := (eP (eL PyData.int) (eL PyData.int))) (v := ((a_2.1 ++ ([a_3] : (List Int))), (a_2.2 ++ ([road_1.b] : (List Int))))) (xs := s_2.2) (fun _ => pv 6) (DN.toPL (f := (eL PyData.int)) (g := PyData.int) (v := ((a_2.1 ++ ([a_3] : (List Int))), (a_2.2 ++ ([road_1.b] : (List Int))))) (dn_pair (f := (eL PyData.int)) (g := PyData.int) (x := (a_2.1 ++ ([a_3] : (List Int)))) (ys := (a_2.2 ++ ([road_1.b] : (List Int)))) (DN.toL (f := PyData.int) (xs := (a_2.1 ++ ([a_3] : (List Int)))) (dn_catL (de_v 7 (pv 7)) (DN.toL (f := PyData.int) (xs := ([a_3] : (List Int))) (dn_lst (da_cons (de_v 9 (pv 9)) da_nil))) (by rw [sizeLine_eq]; first | omega | (have h5 := hpz.pp.le; have h6 := hpz.pp.ln; simp only [List.length_cons, List.length_nil]; omega) | (simp only [List.length_append, List.length_cons, List.length_nil, List.length_map, List.length_replicate]; omega)))) (dn_catL (de_v 8 (pv 8)) (DN.toL (f := PyData.int) (xs := ([road_1.b] : (List Int))) (dn_lst (da_cons (de_it (de_v 10 (pv 10)) de_int) da_nil))) (by rw [sizeLine_eq]; first | omega | (have h5 := hpz.pp.le; have h6 := hpz.pp.ln; simp only [List.length_cons, List.length_nil]; omega) | (simp only [List.length_append, List.length_cons, List.length_nil, List.length_map, List.length_replicate]; omega))))) rfl (by rw [sizeLine_eq]; (first | exact Nat.lt_of_le_of_lt (hpz.l1 (by omega)).1 (by decide) | exact Nat.lt_of_le_of_lt (hpz.l1 (by omega)).2 (by decide))) (by subst e_begun_3; rfl)) ?_
          exact ds_nil (by subst e_p_2 e_begun_3; (try simp only [e_begun_2, c_2, c_3, cond_true, cond_false, Bool.not_true, Bool.not_false, goM, goN]); (show Le _ _); repeat (first | exact Le.nil | refine Le.same ?_ | refine Le.drop ?_))
        · have q_c_3 := c_3
          try simp only [eqD_t, eqD_f, decide_eq_true_eq, decide_eq_false_iff_not, Bool.not_eq_true', Bool.not_eq_false', Bool.and_eq_true, Bool.or_eq_true, Bool.and_eq_false_iff, Bool.or_eq_false_iff, Bool.not_true, Bool.not_false, Bool.not_not, Decidable.not_not] at q_c_3
          exact ds_nil (by subst e_p_2; (try simp only [e_begun_2, c_2, c_3, cond_true, cond_false, Bool.not_true, Bool.not_false, goM, goN]); (show Le _ _); repeat (first | exact Le.nil | refine Le.same ?_ | refine Le.drop ?_))
        exact ds_nil (by subst e_p_1 e_p_2; (try simp only [e_begun_2, c_2, cond_true, cond_false, Bool.not_true, Bool.not_false, goM, goN]); (show Le _ _); repeat (first | exact Le.nil | refine Le.same ?_ | refine Le.drop ?_))
      exact ds_nil ⟨(p_1.1, p_1.2), (by subst e_some_v_1 e_begun_1 e_road_1 e_p_1; first | (simp only [l_ways_between_2, e_begun_2, cond_true, cond_false, Bool.not_true, Bool.not_false, goM, goN, List.dropLast_concat, List.getLastD_concat]; first | done | rfl) | (simp only [l_ways_between_2]; rw [e_begun_2]; first | done | rfl) | (simp only [l_ways_between_2]; (try dsimp only at e_begun_2); (try simp only [e_begun_2, List.dropLast_concat, List.getLastD_concat, cond_true, cond_false, Bool.not_true, Bool.not_false, goM, goN]); first | done | rfl)), (by repeat (first | exact Le.nil | refine Le.same ?_ | refine Le.drop ?_)), (by have hz := go_inv (v := (p_1.1, p_1.2)) (ways_between_step (p := a_2) hr hi_2) (by subst e_some_v_1 e_begun_1 e_road_1 e_p_1; first | (simp only [l_ways_between_2, e_begun_2, cond_true, cond_false, Bool.not_true, Bool.not_false, goM, goN, List.dropLast_concat, List.getLastD_concat]; first | done | rfl) | (simp only [l_ways_between_2]; rw [e_begun_2]; first | done | rfl) | (simp only [l_ways_between_2]; (try dsimp only at e_begun_2); (try simp only [e_begun_2, List.dropLast_concat, List.getLastD_concat, cond_true, cond_false, Bool.not_true, Bool.not_false, goM, goN]); first | done | rfl)); exact hz)⟩
    · intro r o f_1 ho hr_
      exact r.elim
    intro s_3 f_1 hi_2
    exact ds_nil ⟨(s_3.1, s_3.2), (by subst e_some_v_1 e_begun_1; first | (simp only [l_ways_between_1, e_begun_2, f_1, cond_true, cond_false, Bool.not_true, Bool.not_false, goM, goN, List.dropLast_concat, List.getLastD_concat]; first | done | rfl) | (simp only [l_ways_between_1]; rw [e_begun_2, f_1]; first | done | rfl) | (simp only [l_ways_between_1]; (try dsimp only at e_begun_2); (try dsimp only at f_1); (try simp only [e_begun_2, List.dropLast_concat, List.getLastD_concat, cond_true, cond_false, Bool.not_true, Bool.not_false, goM, goN]); (try simp only [f_1, List.dropLast_concat, List.getLastD_concat, cond_true, cond_false, Bool.not_true, Bool.not_false, goM, goN]); first | done | rfl)), (by repeat (first | exact Le.nil | refine Le.same ?_ | refine Le.drop ?_)), (by have hz := go_inv (v := (s_3.1, s_3.2)) (ways_between_turn (net := net) (e := end_v) (lane := lane) pre_0 pre_1 hi_1 (by assumption)) (by subst e_some_v_1 e_begun_1; first | (simp only [l_ways_between_1, e_begun_2, f_1, cond_true, cond_false, Bool.not_true, Bool.not_false, goM, goN, List.dropLast_concat, List.getLastD_concat]; first | done | rfl) | (simp only [l_ways_between_1]; rw [e_begun_2, f_1]; first | done | rfl) | (simp only [l_ways_between_1]; (try dsimp only at e_begun_2); (try dsimp only at f_1); (try simp only [e_begun_2, List.dropLast_concat, List.getLastD_concat, cond_true, cond_false, Bool.not_true, Bool.not_false, goM, goN]); (try simp only [f_1, List.dropLast_concat, List.getLastD_concat, cond_true, cond_false, Bool.not_true, Bool.not_false, goM, goN]); first | done | rfl)); exact ⟨hz.1, by rw [← e_begun_2]; exact hz.2⟩)⟩
  · intro r o f_2 ho hr_
    exact r.elim
  intro s_4 f_2 hi_1
  exact ds_retSortL hr.units (pv 5) rfl rfl T.b_sorted (.inl (by subst e_some_v_1 e_begun_1; first | (simp only [m_ways_between, f_2, cond_true, cond_false, Bool.not_true, Bool.not_false, goM, goN]; first | done | rfl) | (simp only [m_ways_between]; rw [f_2]; first | done | rfl) | (simp only [m_ways_between]; (try dsimp only at f_2); (try simp only [f_2, cond_true, cond_false, Bool.not_true, Bool.not_false, goM, goN]); first | done | rfl)))
theorem ways_between_eq (net : Int × List (T5 Int Int Fr Fr Bool)) (s e : Int) (lane : Bool) : m_ways_between net s e lane = dfs (usb net.2 lane) s e := by
  unfold m_ways_between dfs
  simp only
  have e1 : l_ways_between_1_c net e (m_usable_roads net lane) = dfsC := funext fun s => by
    unfold l_ways_between_1_c dfsC
    by_cases c : s.2 = [] <;> simp [eqD, c]
  have e2 : l_ways_between_1 net e (m_usable_roads net lane) = dfsT e (usb net.2 lane) := funext fun s => wb_turn net e lane s
  rw [e1, e2]
def m_ask_way (net : (Int × (List (T5 Int Int (Int × Int) (Int × Int) Bool)))) (start : Int) (end_v : Int) (lane : Bool) (number : Int) : Except Er Unit := (let reached_1 := (m_reached_from net start lane); (bif (!decide (end_v ∈ reached_1)) then (.error ⟨4, number, reached_1⟩) else (.ok ())))
def r_ask_way (A : Nat → Addr) (xs : List PyData) (r : Res) : Prop := ∃ (net : (Int × (List (T5 Int Int (Int × Int) (Int × Int) Bool)))) (start : Int) (end_v : Int) (lane : Bool) (number : Int), (net.2.length ≤ 13) ∧ (∀ r ∈ net.2, (0 ≤ r.a ∧ r.a < 6) ∧ (0 ≤ r.b ∧ r.b < 6)) ∧ (0 ≤ start ∧ start < 6) ∧ xs = [((eP PyData.int (eL (eT5 PyData.int PyData.int (eP PyData.int PyData.int) (eP PyData.int PyData.int) PyData.bool))) net), (.int start), (.int end_v), (.bool lane), (.int number)] ∧ r = resE A eU (m_ask_way net start end_v lane number)
abbrev N_ask_way : List Str := ["net", "start", "end", "lane", "number", "reached"]
theorem sc_ask_way : FnScope N_ask_way ["net", "start", "end", "lane", "number"] (defScope s_ask_way) := ⟨rfl, rfl, rfl, by decide +kernel, rfl, by decide +kernel, by decide +kernel⟩
theorem ok_ask_way (F : Def K mg "ask_way" s_ask_way ["net", "start", "end", "lane", "number"]) (T : Txt K mg A) (c_NoWay : IniC P w K mg base "NoWay" (A 4) (spNW K (A 4))) (c_reached_from : Cal P w K mg base "reached_from" 3 r_reached_from 2) : Cal P w K mg base "ask_way" 5 (r_ask_way A) 3 := by
  refine cal_ok F sc_ask_way rfl fun fa cdv AA outer ss HH EE X hX C hr xs r hl hR => ?_
  obtain ⟨net, start, end_v, lane, number, pre_0, pre_1, pre_2, rfl, rfl⟩ := hR
  subst hX
  show DSs _ _ _ [.v ((eP PyData.int (eL (eT5 PyData.int PyData.int (eP PyData.int PyData.int) (eP PyData.int PyData.int) PyData.bool))) net), .v (.int start), .v (.int end_v), .v (.bool lane), .v (.int number), .no] _
  obtain ⟨reached_1, e_reached_1⟩ : ∃ z : (List Int), z = (m_reached_from net start lane) := ⟨_, rfl⟩
  refine ds_then (E' := [.v ((eP PyData.int (eL (eT5 PyData.int PyData.int (eP PyData.int PyData.int) (eP PyData.int PyData.int) PyData.bool))) net), .v (.int start), .v (.int end_v), .v (.bool lane), .v (.int number), .v ((eL PyData.int) reached_1)]) (ds_set (x := ((eL PyData.int) reached_1)) (ln 5 sc_ask_way.nd) (deC (by subst e_reached_1; rfl) (DN.toL (f := PyData.int) (xs := (m_reached_from net start lane)) (dn_call (f := "reached_from") (t := (oL PyData.int) (m_reached_from net start lane)) (c_reached_from.at hr) rfl (da_cons (de_v 0 (pv 0)) (da_cons (de_v 1 (pv 1)) (da_cons (de_v 3 (pv 3)) da_nil))) ⟨net, start, lane, (by first | omega | assumption | decide), (by first | omega | assumption | decide), (by first | omega | assumption | decide), rfl, rfl⟩)))) ?_
  refine ds_ifr (dt_niI (de_v 2 (pv 2)) (de_v 5 (pv 5))) (fun c_1 => ?_) (fun c_1 => ?_)
  · have q_c_1 := c_1
    try simp only [eqD_t, eqD_f, decide_eq_true_eq, decide_eq_false_iff_not, Bool.not_eq_true', Bool.not_eq_false', Bool.and_eq_true, Bool.or_eq_true, Bool.and_eq_false_iff, Bool.or_eq_false_iff, Bool.not_true, Bool.not_false, Bool.not_not, Decidable.not_not] at q_c_1
    exact ds_raiseW C c_NoWay (hr.mono (by decide)) rfl (da_cons (de_v 4 (pv 4)) (da_cons (de_v 5 (pv 5)) da_nil)) (by subst e_reached_1; first | (simp only [m_ask_way, resE, resEO, fin, c_1, cond_true, cond_false, Bool.not_true, Bool.not_false, goM, goN]; first | done | rfl) | (simp only [m_ask_way, resE, resEO, fin]; rw [c_1]; first | done | rfl) | (simp only [m_ask_way, resE, resEO, fin]; (try dsimp only at c_1); (try simp only [c_1, cond_true, cond_false, Bool.not_true, Bool.not_false, goM, goN]); first | done | rfl))
  have q_c_1 := c_1
  try simp only [eqD_t, eqD_f, decide_eq_true_eq, decide_eq_false_iff_not, Bool.not_eq_true', Bool.not_eq_false', Bool.and_eq_true, Bool.or_eq_true, Bool.and_eq_false_iff, Bool.or_eq_false_iff, Bool.not_true, Bool.not_false, Bool.not_not, Decidable.not_not] at q_c_1
  exact ds_nil (by subst e_reached_1; first | (simp only [m_ask_way, resE, fin, c_1, cond_true, cond_false, Bool.not_true, Bool.not_false, goM, goN]; first | done | rfl) | (simp only [m_ask_way, resE, fin]; rw [c_1]; first | done | rfl) | (simp only [m_ask_way, resE, fin]; (try dsimp only at c_1); (try simp only [c_1, cond_true, cond_false, Bool.not_true, Bool.not_false, goM, goN]); first | done | rfl))
theorem ask_is (net : Int × List Rd) (s e : Int) (lane : Bool) (n : Int) : m_ask_way net s e lane n = if e ∈ m_reached_from net s lane then .ok () else .error ⟨4, n, m_reached_from net s lane⟩ := by
  unfold m_ask_way
  dsimp only
  by_cases c : e ∈ m_reached_from net s lane
  · rw [if_pos c, decide_eq_true c]; rfl
  · rw [if_neg c, decide_eq_false c]; rfl
def m_wish_fits (wish : PySem.PyData) (many : Int) : Bool := (bif ((!decide ((pyLen wish) = (4 : Int))) || (!(m_two_places (gx (elems wish) (0 : Int)) (gx (elems wish) (1 : Int)) many))) then false else ((m_is_fraction (gx (elems wish) (2 : Int))) && ((decide ((0 : Int) < (asI (gx (elems (gx (elems wish) (2 : Int))) (0 : Int))))) && (isBool (gx (elems wish) (3 : Int))))))
def r_wish_fits (xs : List PyData) (r : Res) : Prop := ∃ (wish : PySem.PyData) (many : Int), (isTuple wish = true) ∧ xs = [wish, (.int many)] ∧ r = .v (.bool (m_wish_fits wish many))
abbrev N_wish_fits : List Str := ["wish", "many"]
theorem sc_wish_fits : FnScope N_wish_fits ["wish", "many"] (defScope s_wish_fits) := ⟨rfl, rfl, rfl, by decide +kernel, rfl, by decide +kernel, by decide +kernel⟩
theorem ok_wish_fits (F : Def K mg "wish_fits" s_wish_fits ["wish", "many"]) (T : Txt K mg A) (c_is_fraction : Cal P w K mg base "is_fraction" 1 r_is_fraction 2) (c_two_places : Cal P w K mg base "two_places" 3 r_two_places 3) : Cal P w K mg base "wish_fits" 2 r_wish_fits 4 := by
  refine cal_ok F sc_wish_fits rfl fun fa cdv AA outer ss HH EE X hX C hr xs r hl hR => ?_
  obtain ⟨wish, many, pre_0, rfl, rfl⟩ := hR
  subst hX
  show DSs _ _ _ [.v wish, .v (.int many)] _
  refine ds_ifr (DW.toT (dw_or (dt_neI (de_lenA (de_v 0 (pv 0)) (by first | exact .inl pre_0 | exact .inl (isfr_seq (by assumption))) rfl T.b_len) de_int) (fun h_1 => by have q := h_1; (try simp only [eqD_t, eqD_f, decide_eq_true_eq, decide_eq_false_iff_not, Bool.not_eq_true', Bool.not_eq_false', Bool.and_eq_true, Bool.or_eq_true, Bool.and_eq_false_iff, Bool.or_eq_false_iff, Bool.not_true, Bool.not_false, Bool.not_not, Decidable.not_not] at q); exact (dw_or1 (dt_not (dt_val (de_call (f := "two_places") (c_two_places.at hr) rfl (da_cons (de_ixA (de_v 0 (pv 0)) de_int (by first | exact .inl pre_0 | exact .inl (isfr_seq (by assumption))) (by first | exact inR_py (by decide) (by rw [show pyLen wish = (4 : Int) from by first | assumption | exact q_c_1.1]; decide) | exact inR_py (by decide) (by rw [isfr_len (by assumption)]; decide))) (da_cons (de_ixA (de_v 0 (pv 0)) de_int (by first | exact .inl pre_0 | exact .inl (isfr_seq (by assumption))) (by first | exact inR_py (by decide) (by rw [show pyLen wish = (4 : Int) from by first | assumption | exact q_c_1.1]; decide) | exact inR_py (by decide) (by rw [isfr_len (by assumption)]; decide))) (da_cons (de_v 1 (pv 1)) da_nil))) ⟨(gx (elems wish) (0 : Int)), (gx (elems wish) (1 : Int)), many, rfl, rfl⟩))))))) (fun c_1 => ?_) (fun c_1 => ?_)
  · have q_c_1 := c_1
    try simp only [eqD_t, eqD_f, decide_eq_true_eq, decide_eq_false_iff_not, Bool.not_eq_true', Bool.not_eq_false', Bool.and_eq_true, Bool.or_eq_true, Bool.and_eq_false_iff, Bool.or_eq_false_iff, Bool.not_true, Bool.not_false, Bool.not_not, Decidable.not_not] at q_c_1
    exact ds_retD de_bl (.inl (by first | (simp only [m_wish_fits, c_1, cond_true, cond_false, Bool.not_true, Bool.not_false, goM, goN]; first | done | rfl) | (simp only [m_wish_fits]; rw [c_1]; first | done | rfl) | (simp only [m_wish_fits]; (try dsimp only at c_1); (try simp only [c_1, cond_true, cond_false, Bool.not_true, Bool.not_false, goM, goN]); first | done | rfl)))
  have q_c_1 := c_1
  try simp only [eqD_t, eqD_f, decide_eq_true_eq, decide_eq_false_iff_not, Bool.not_eq_true', Bool.not_eq_false', Bool.and_eq_true, Bool.or_eq_true, Bool.and_eq_false_iff, Bool.or_eq_false_iff, Bool.not_true, Bool.not_false, Bool.not_not, Decidable.not_not] at q_c_1
  exact ds_retD (de_and (de_call (f := "is_fraction") (c_is_fraction.at hr) rfl (da_cons (de_ixA (de_v 0 (pv 0)) de_int (by first | exact .inl pre_0 | exact .inl (isfr_seq (by assumption))) (by first | exact inR_py (by decide) (by rw [show pyLen wish = (4 : Int) from by first | assumption | exact q_c_1.1]; decide) | exact inR_py (by decide) (by rw [isfr_len (by assumption)]; decide))) da_nil) ⟨(gx (elems wish) (2 : Int)), rfl, rfl⟩) (fun h_3 => by have q := h_3; (try simp only [eqD_t, eqD_f, decide_eq_true_eq, decide_eq_false_iff_not, Bool.not_eq_true', Bool.not_eq_false', Bool.and_eq_true, Bool.or_eq_true, Bool.and_eq_false_iff, Bool.or_eq_false_iff, Bool.not_true, Bool.not_false, Bool.not_not, Decidable.not_not] at q); exact (de_and (de_gt (de_asI (de_ixA (de_ixA (de_v 0 (pv 0)) de_int (by first | exact .inl pre_0 | exact .inl (isfr_seq (by assumption))) (by first | exact inR_py (by decide) (by rw [show pyLen wish = (4 : Int) from by first | assumption | exact q_c_1.1]; decide) | exact inR_py (by decide) (by rw [isfr_len (by assumption)]; decide))) de_int (by first | exact .inl pre_0 | exact .inl (isfr_seq (by assumption))) (by first | exact inR_py (by decide) (by rw [show pyLen wish = (4 : Int) from by first | assumption | exact q_c_1.1]; decide) | exact inR_py (by decide) (by rw [isfr_len (by assumption)]; decide))) (by exact isfr_whole0 (by assumption))) de_int) (fun h_2 => by have q := h_2; (try simp only [eqD_t, eqD_f, decide_eq_true_eq, decide_eq_false_iff_not, Bool.not_eq_true', Bool.not_eq_false', Bool.and_eq_true, Bool.or_eq_true, Bool.and_eq_false_iff, Bool.or_eq_false_iff, Bool.not_true, Bool.not_false, Bool.not_not, Decidable.not_not] at q); exact (de_one (de_isi (kit_bool (gx (elems wish) (3 : Int))) (de_ixA (de_v 0 (pv 0)) de_int (by first | exact .inl pre_0 | exact .inl (isfr_seq (by assumption))) (by first | exact inR_py (by decide) (by rw [show pyLen wish = (4 : Int) from by first | assumption | exact q_c_1.1]; decide) | exact inR_py (by decide) (by rw [isfr_len (by assumption)]; decide))) rfl T.b_isinstance rfl T.b_bool)))))) (.inl (by first | (simp only [m_wish_fits, c_1, cond_true, cond_false, Bool.not_true, Bool.not_false, goM, goN]; first | done | rfl) | (simp only [m_wish_fits]; rw [c_1]; first | done | rfl) | (simp only [m_wish_fits]; (try dsimp only at c_1); (try simp only [c_1, cond_true, cond_false, Bool.not_true, Bool.not_false, goM, goN]); first | done | rfl)))
def asB : PyData → Bool
  | .bool b => b
  | _ => false
def asWS (x : PyData) : T4 Int Int Fr Bool := ⟨asI (gx (elems x) 0), asI (gx (elems x) 1), asFr (gx (elems x) 2), asB (gx (elems x) 3)⟩
abbrev eWS : T4 Int Int Fr Bool → PyData := eT4 PyData.int PyData.int (eP PyData.int PyData.int) PyData.bool
theorem tup_of {x : PyData} (h : isTuple x = true) : x = .tuple (elems x) := by
  cases x with
  | tuple xs => rfl
  | _ => cases h
theorem four_of {xs : List PyData} (h : xs.length = 4) : ∃ a b c d, xs = [a, b, c, d] := by
  match xs, h with
  | [a, b, c, d], _ => exact ⟨a, b, c, d, rfl⟩
theorem fits_4 (a b c d : PyData) (m : Int) : m_wish_fits (.tuple [a, b, c, d]) m = ((m_two_places a b m) && (m_is_fraction c && (decide (0 < asI (gx (elems c) 0)) && isBool d))) := by
  have e : m_wish_fits (.tuple [a, b, c, d]) m = bif !(m_two_places a b m) then false else (m_is_fraction c && (decide (0 < asI (gx (elems c) 0)) && isBool d)) := rfl
  rw [e]
  cases m_two_places a b m <;> rfl
theorem fits_n {xs : List PyData} {m : Int} (h : xs.length ≠ 4) : m_wish_fits (.tuple xs) m = false := by
  unfold m_wish_fits
  have e : pyLen (.tuple xs) = (xs.length : Int) := rfl
  rw [e, decide_eq_false (show ¬ (xs.length : Int) = 4 by omega)]
  rfl
theorem isW_int {x : PyData} (h : m_is_whole x = true) : x = .int (asI x) := by
  cases x with
  | int i => rfl
  | _ => cases h
theorem isB_bool {x : PyData} (h : isBool x = true) : x = .bool (asB x) := by
  cases x with
  | bool b => rfl
  | _ => cases h
theorem fits_is {x : PyData} {m : Int} (ht : isTuple x = true) (h : m_wish_fits x m = true) : x = eWS (asWS x) ∧ ((0 ≤ (asWS x).a ∧ (asWS x).a < m) ∧ (0 ≤ (asWS x).b ∧ (asWS x).b < m)) := by
  have e := tup_of ht
  by_cases hl : (elems x).length = 4
  · obtain ⟨a, b, c, d, e4⟩ := four_of hl
    rw [e4] at e
    subst e
    rw [fits_4, Bool.and_eq_true, Bool.and_eq_true, Bool.and_eq_true] at h
    obtain ⟨h1, h2, h3, h4⟩ := h
    unfold m_two_places at h1
    rw [Bool.and_eq_true, Bool.and_eq_true] at h1
    obtain ⟨p1, p2, _⟩ := h1
    unfold m_is_place at p1 p2
    rw [Bool.and_eq_true, Bool.and_eq_true] at p1 p2
    have ea := isW_int p1.1
    have eb := isW_int p2.1
    have ec := asFr_eq (isfr_frD h2)
    have ed := isB_bool h4
    refine ⟨?_, ⟨of_decide_eq_true p1.2.1, of_decide_eq_true p1.2.2⟩, ⟨of_decide_eq_true p2.2.1, of_decide_eq_true p2.2.2⟩⟩
    show PyData.tuple [a, b, c, d] = .tuple [.int (asI a), .int (asI b), eP .int .int (asFr c), .bool (asB d)]
    rw [← ea, ← eb, ← ec, ← ed]
  · rw [e, fits_n hl] at h
    cases h
theorem eL_ws {xs : List PyData} {m : Int} (ht : ∀ x ∈ xs, isTuple x = true) (h : ∀ x ∈ xs, m_wish_fits x m = true) : eL eA xs = eL eWS (xs.map asWS) := by
  show PyData.list _ = PyData.list _
  rw [List.map_map]
  exact congrArg PyData.list (List.map_congr_left fun x hx => (fits_is (ht x hx) (h x hx)).1)

def m_ways_of (net : (Int × (List (T5 Int Int (Int × Int) (Int × Int) Bool)))) (wish : (T4 Int Int (Int × Int) Bool)) : (List (List Int)) := (m_ways_between net wish.a wish.b wish.d)
def r_ways_of (xs : List PyData) (r : Res) : Prop := ∃ (net : (Int × (List (T5 Int Int (Int × Int) (Int × Int) Bool)))) (wish : (T4 Int Int (Int × Int) Bool)), (net.2.length ≤ 13) ∧ (∀ r ∈ net.2, (0 ≤ r.a ∧ r.a < 6) ∧ (0 ≤ r.b ∧ r.b < 6)) ∧ (0 ≤ wish.a ∧ wish.a < 6) ∧ xs = [((eP PyData.int (eL (eT5 PyData.int PyData.int (eP PyData.int PyData.int) (eP PyData.int PyData.int) PyData.bool))) net), ((eT4 PyData.int PyData.int (eP PyData.int PyData.int) PyData.bool) wish)] ∧ r = .ok ((oS (oL PyData.int)) (m_ways_of net wish))
abbrev N_ways_of : List Str := ["net", "wish"]
theorem sc_ways_of : FnScope N_ways_of ["net", "wish"] (defScope s_ways_of) := ⟨rfl, rfl, rfl, by decide +kernel, rfl, by decide +kernel, by decide +kernel⟩
theorem ok_ways_of (F : Def K mg "ways_of" s_ways_of ["net", "wish"]) (T : Txt K mg A) (c_ways_between : Cal P w K mg base "ways_between" 4 r_ways_between 2) : Cal P w K mg base "ways_of" 2 r_ways_of 3 := by
  refine cal_ok F sc_ways_of rfl fun fa cdv AA outer ss HH EE X hX C hr xs r hl hR => ?_
  obtain ⟨net, wish, pre_0, pre_1, pre_2, rfl, rfl⟩ := hR
  subst hX
  show DSs _ _ _ [.v ((eP PyData.int (eL (eT5 PyData.int PyData.int (eP PyData.int PyData.int) (eP PyData.int PyData.int) PyData.bool))) net), .v ((eT4 PyData.int PyData.int (eP PyData.int PyData.int) PyData.bool) wish)] _
  exact ds_retN (dn_call (f := "ways_between") (t := (oS (oL PyData.int)) (m_ways_between net wish.a wish.b wish.d)) (c_ways_between.at hr) rfl (da_cons (de_v 0 (pv 0)) (da_cons (de_it (de_v 1 (pv 1)) de_int) (da_cons (de_it (de_v 1 (pv 1)) de_int) (da_cons (de_it (de_v 1 (pv 1)) de_int) da_nil)))) ⟨net, wish.a, wish.b, wish.d, (by first | omega | assumption | decide), (by first | omega | assumption | decide), (by first | omega | assumption | decide), rfl, rfl⟩) (.inl (by simp only [m_ways_of, cond_true, cond_false, Bool.not_true, Bool.not_false, goM, goN]; try rfl))
def AllI {α : Type} (P : α → Prop) (xs : List α) (i : Nat) : Prop := ∀ (j : Nat) (x : α), j < i → xs[j]? = some x → P x
theorem allI_0 {α : Type} {P : α → Prop} {xs : List α} : AllI P xs 0 := fun j x h => absurd h (Nat.not_lt_zero _)
theorem allI_step {α : Type} {P : α → Prop} {xs : List α} {i : Nat} {a : α} (h : AllI P xs (((i : Nat) : Int)).toNat) (ha : xs[i]? = some a) (hp : P a) : AllI P xs ((((i + 1 : Nat)) : Int)).toNat := fun j x hj hx => by
  by_cases c : j = i
  · subst c; rw [ha] at hx; cases hx; exact hp
  · exact h j x (by omega) hx
theorem allI_end {α : Type} {P : α → Prop} {xs : List α} (h : AllI P xs ((xs.length : Int)).toNat) : ∀ x ∈ xs, P x := fun x hx => by
  obtain ⟨j, hj⟩ := List.getElem?_of_mem hx
  exact h j x (by have := get_lt hj; omega) hj

def l_made_wishes_1 (k_net : (Int × (List (T5 Int Int (Int × Int) (Int × Int) Bool)))) (s_1 : Unit) (a_1 : PySem.PyData) : Go (Unit) (Except Er (List (T4 Int Int (Int × Int) Bool))) := (bif (!(m_wish_fits a_1 k_net.1)) then (.rt (.error (er 3))) else (.nx ()))
def l_made_wishes_2 (k_net : (Int × (List (T5 Int Int (Int × Int) (Int × Int) Bool)))) (s_3 : Unit) (a_2 : (Int × (T4 Int Int (Int × Int) Bool))) : Go (Unit) (Except Er (List (T4 Int Int (Int × Int) Bool))) := (exG (m_ask_way k_net a_2.2.a a_2.2.b a_2.2.d a_2.1) (fun _ => (.nx ())))
def m_made_wishes (net : (Int × (List (T5 Int Int (Int × Int) (Int × Int) Bool)))) (wishes : (List PySem.PyData)) : Except Er (List (T4 Int Int (Int × Int) Bool)) := (bif ((decide ((wishes.length : Int) < (1 : Int))) || (decide ((3 : Int) < (wishes.length : Int)))) then (.error (er 3)) else (goM (forG (l_made_wishes_1 net) wishes ()) (fun r => r) (fun s_2 => (goM (forG (l_made_wishes_2 net) (enumL (wishes.map asWS)) ()) (fun r => r) (fun s_4 => (bif (decide ((10 : Int) < (((wishes.map asWS).map (fun (a_3 : (T4 Int Int (Int × Int) Bool)) => ((m_ways_of net a_3).length : Int))).sum))) then (.error (er 5)) else (.ok (wishes.map asWS))))))))
def r_made_wishes (A : Nat → Addr) (xs : List PyData) (r : Res) : Prop := ∃ (net : (Int × (List (T5 Int Int (Int × Int) (Int × Int) Bool)))) (wishes : (List PySem.PyData)), (2 ≤ net.1 ∧ net.1 ≤ 6) ∧ (net.2.length ≤ 13) ∧ (∀ r ∈ net.2, (0 ≤ r.a ∧ r.a < 6) ∧ (0 ≤ r.b ∧ r.b < 6)) ∧ (∀ x ∈ wishes, isTuple x = true) ∧ xs = [((eP PyData.int (eL (eT5 PyData.int PyData.int (eP PyData.int PyData.int) (eP PyData.int PyData.int) PyData.bool))) net), ((eL eA) wishes)] ∧ r = resEO A (oL (eT4 PyData.int PyData.int (eP PyData.int PyData.int) PyData.bool)) (m_made_wishes net wishes)
abbrev N_made_wishes : List Str := ["net", "wishes", "wish", "number"]
theorem sc_made_wishes : FnScope N_made_wishes ["net", "wishes"] (defScope s_made_wishes) := ⟨rfl, rfl, rfl, by decide +kernel, rfl, by decide +kernel, by decide +kernel⟩
theorem ok_made_wishes (F : Def K mg "made_wishes" s_made_wishes ["net", "wishes"]) (T : Txt K mg A) (c_ask_way : Cal P w K mg base "ask_way" 5 (r_ask_way A) 3) (c_wish_fits : Cal P w K mg base "wish_fits" 2 r_wish_fits 4) (c_ways_of : Cal P w K mg base "ways_of" 2 r_ways_of 3) : Cal P w K mg base "made_wishes" 2 (r_made_wishes A) 5 := by
  refine cal_ok F sc_made_wishes rfl fun fa cdv AA outer ss HH EE X hX C hr xs r hl hR => ?_
  obtain ⟨net, wishes, pre_0, pre_1, pre_2, pre_3, rfl, rfl⟩ := hR
  subst hX
  show DSs _ _ _ [.v ((eP PyData.int (eL (eT5 PyData.int PyData.int (eP PyData.int PyData.int) (eP PyData.int PyData.int) PyData.bool))) net), .v ((eL eA) wishes), .no, .no] _
  refine ds_ifr (DW.toT (dw_or (dt_lt (de_lenL (de_v 1 (pv 1)) rfl T.b_len) de_int) (fun _ => (dw_or1 (dt_gt (de_lenL (de_v 1 (pv 1)) rfl T.b_len) (de_const T.c_MOST_WISHES rfl)))))) (fun c_1 => ?_) (fun c_1 => ?_)
  · have q_c_1 := c_1
    try simp only [eqD_t, eqD_f, decide_eq_true_eq, decide_eq_false_iff_not, Bool.not_eq_true', Bool.not_eq_false', Bool.and_eq_true, Bool.or_eq_true, Bool.and_eq_false_iff, Bool.or_eq_false_iff, Bool.not_true, Bool.not_false, Bool.not_not, Decidable.not_not] at q_c_1
    exact ds_raise C T.x_NoWish rfl (by first | (simp only [m_made_wishes, resE, resEO, fin, c_1, cond_true, cond_false, Bool.not_true, Bool.not_false, goM, goN]; first | done | rfl) | (simp only [m_made_wishes, resE, resEO, fin]; rw [c_1]; first | done | rfl) | (simp only [m_made_wishes, resE, resEO, fin]; (try dsimp only at c_1); (try simp only [c_1, cond_true, cond_false, Bool.not_true, Bool.not_false, goM, goN]); first | done | rfl))
  have q_c_1 := c_1
  try simp only [eqD_t, eqD_f, decide_eq_true_eq, decide_eq_false_iff_not, Bool.not_eq_true', Bool.not_eq_false', Bool.and_eq_true, Bool.or_eq_true, Bool.and_eq_false_iff, Bool.or_eq_false_iff, Bool.not_true, Bool.not_false, Bool.not_not, Decidable.not_not] at q_c_1
  refine ds_forG (items := wishes) (ea := eA) (fun (s_1 : Unit) => [.v ((eP PyData.int (eL (eT5 PyData.int PyData.int (eP PyData.int PyData.int) (eP PyData.int PyData.int) PyData.bool))) net), .v ((eL eA) wishes), .no, .no]) (l_made_wishes_1 net) () (fun (i_1 : Nat) (s_1 : Unit) => AllI (fun x => m_wish_fits x net.1 = true) wishes (i_1 : Int).toNat) (fun (s_1 : Unit) => AllI (fun x => m_wish_fits x net.1 = true) wishes ((wishes).length : Int).toNat) (fun (r : (Except Er (List (T4 Int Int (Int × Int) Bool)))) o => fin (resEO A (oL (eT4 PyData.int PyData.int (eP PyData.int PyData.int) PyData.bool)) r) o) C (di_list (de_v 1 (pv 1))) (tg_name (ln 2 sc_made_wishes.nd)) (by repeat (first | exact Le.nil | refine Le.same ?_ | refine Le.drop ?_)) (by exact allI_0) ?_ (fun _ h => h) ?_ ?_
  · intro i_1 a_1 s_1 ha_1 hi_1
    refine ⟨[.v ((eP PyData.int (eL (eT5 PyData.int PyData.int (eP PyData.int PyData.int) (eP PyData.int PyData.int) PyData.bool))) net), .v ((eL eA) wishes), .v a_1, .no], rfl, ?_⟩
    refine ds_ifr (dt_not (dt_val (de_call (f := "wish_fits") (c_wish_fits.at hr) rfl (da_cons (de_v 2 (pv 2)) (da_cons (de_it (de_v 0 (pv 0)) de_int) da_nil)) ⟨a_1, net.1, (by first | omega | assumption | exact pre_3 _ (List.mem_of_getElem? ha_1) | (have h9 := hwr _ (enumL_in (List.mem_of_getElem? ha_2)); omega) | (have h9 := hwr _ (by assumption); omega) | decide), rfl, rfl⟩))) (fun c_2 => ?_) (fun c_2 => ?_)
    · have q_c_2 := c_2
      try simp only [eqD_t, eqD_f, decide_eq_true_eq, decide_eq_false_iff_not, Bool.not_eq_true', Bool.not_eq_false', Bool.and_eq_true, Bool.or_eq_true, Bool.and_eq_false_iff, Bool.or_eq_false_iff, Bool.not_true, Bool.not_false, Bool.not_not, Decidable.not_not] at q_c_2
      exact ds_raise C T.x_NoWish rfl ⟨.error (er 3), (by first | (simp only [l_made_wishes_1, c_1, c_2, cond_true, cond_false, Bool.not_true, Bool.not_false, goM, goN]; first | done | rfl) | (simp only [l_made_wishes_1]; rw [c_1, c_2]; first | done | rfl) | (simp only [l_made_wishes_1]; (try dsimp only at c_1); (try dsimp only at c_2); (try simp only [c_1, cond_true, cond_false, Bool.not_true, Bool.not_false, goM, goN]); (try simp only [c_2, cond_true, cond_false, Bool.not_true, Bool.not_false, goM, goN]); first | done | rfl)), rfl⟩
    have q_c_2 := c_2
    try simp only [eqD_t, eqD_f, decide_eq_true_eq, decide_eq_false_iff_not, Bool.not_eq_true', Bool.not_eq_false', Bool.and_eq_true, Bool.or_eq_true, Bool.and_eq_false_iff, Bool.or_eq_false_iff, Bool.not_true, Bool.not_false, Bool.not_not, Decidable.not_not] at q_c_2
    exact ds_nil ⟨(), (by first | (simp only [l_made_wishes_1, c_1, c_2, cond_true, cond_false, Bool.not_true, Bool.not_false, goM, goN]; first | done | rfl) | (simp only [l_made_wishes_1]; rw [c_1, c_2]; first | done | rfl) | (simp only [l_made_wishes_1]; (try dsimp only at c_1); (try dsimp only at c_2); (try simp only [c_1, cond_true, cond_false, Bool.not_true, Bool.not_false, goM, goN]); (try simp only [c_2, cond_true, cond_false, Bool.not_true, Bool.not_false, goM, goN]); first | done | rfl)), (by repeat (first | exact Le.nil | refine Le.same ?_ | refine Le.drop ?_)), (by exact allI_step hi_1 ha_1 q_c_2)⟩
  · intro r o f_1 ho hr_
    have hm : m_made_wishes net wishes = r := (by simp only [m_made_wishes, f_1, goM, c_1, cond_true, cond_false, Bool.not_true, Bool.not_false, goM, goN]; try rfl)
    rw [hm]; exact hr_
  intro s_2 f_1 hi_1
  have hfit := allI_end hi_1
  have hwr : ∀ w ∈ wishes.map asWS, 0 ≤ w.a ∧ w.a < net.1 := fun w hw => by obtain ⟨x, hx, rfl⟩ := List.mem_map.mp hw; exact (fits_is (pre_3 x hx) (hfit x hx)).2.1
  rw [eL_ws pre_3 hfit]
  refine ds_forG (items := (enumL (wishes.map asWS))) (ea := (eP PyData.int (eT4 PyData.int PyData.int (eP PyData.int PyData.int) PyData.bool))) (fun (s_3 : Unit) => [.v ((eP PyData.int (eL (eT5 PyData.int PyData.int (eP PyData.int PyData.int) (eP PyData.int PyData.int) PyData.bool))) net), .v ((eL (eT4 PyData.int PyData.int (eP PyData.int PyData.int) PyData.bool)) (wishes.map asWS)), .no, .no]) (l_made_wishes_2 net) () (fun (i_2 : Nat) (s_3 : Unit) => True) (fun (s_3 : Unit) => True) (fun (r : (Except Er (List (T4 Int Int (Int × Int) Bool)))) o => fin (resEO A (oL (eT4 PyData.int PyData.int (eP PyData.int PyData.int) PyData.bool)) r) o) C (di_enumL (de_v 1 (pv 1)) rfl T.b_enumerate) (tg_two rfl (tg_name (ln 3 sc_made_wishes.nd)) (tg_name (ln 2 sc_made_wishes.nd))) (by repeat (first | exact Le.nil | refine Le.same ?_ | refine Le.drop ?_)) (by first | trivial | omega) ?_ (fun _ h => h) ?_ ?_
  · intro i_2 a_2 s_3 ha_2 hi_2
    refine ⟨[.v ((eP PyData.int (eL (eT5 PyData.int PyData.int (eP PyData.int PyData.int) (eP PyData.int PyData.int) PyData.bool))) net), .v ((eL (eT4 PyData.int PyData.int (eP PyData.int PyData.int) PyData.bool)) (wishes.map asWS)), .v ((eT4 PyData.int PyData.int (eP PyData.int PyData.int) PyData.bool) a_2.2), .v (.int a_2.1)], rfl, ?_⟩
    cases g_1 : (m_ask_way net a_2.2.a a_2.2.b a_2.2.d a_2.1) with
    | error em => exact ds_exprE (f := "ask_way") C (c_ask_way.at hr) rfl (da_cons (de_v 0 (pv 0)) (da_cons (de_it (de_v 2 (pv 2)) de_int) (da_cons (de_it (de_v 2 (pv 2)) de_int) (da_cons (de_it (de_v 2 (pv 2)) de_int) (da_cons (de_v 3 (pv 3)) da_nil))))) ⟨net, a_2.2.a, a_2.2.b, a_2.2.d, a_2.1, (by first | omega | assumption | exact pre_3 _ (List.mem_of_getElem? ha_1) | (have h9 := hwr _ (enumL_in (List.mem_of_getElem? ha_2)); omega) | (have h9 := hwr _ (by assumption); omega) | decide), (by first | omega | assumption | exact pre_3 _ (List.mem_of_getElem? ha_1) | (have h9 := hwr _ (enumL_in (List.mem_of_getElem? ha_2)); omega) | (have h9 := hwr _ (by assumption); omega) | decide), (by first | omega | assumption | exact pre_3 _ (List.mem_of_getElem? ha_1) | (have h9 := hwr _ (enumL_in (List.mem_of_getElem? ha_2)); omega) | (have h9 := hwr _ (by assumption); omega) | decide), rfl, by rw [g_1]; rfl⟩ ⟨em, rfl⟩ ⟨.error em, (by first | (simp only [l_made_wishes_2, exG_er, c_1, f_1, g_1, cond_true, cond_false, Bool.not_true, Bool.not_false, goM, goN]; first | done | rfl) | (simp only [l_made_wishes_2, exG_er]; rw [c_1, f_1, g_1]; first | done | rfl) | (simp only [l_made_wishes_2, exG_er]; (try dsimp only at c_1); (try dsimp only at f_1); (try dsimp only at g_1); (try simp only [c_1, cond_true, cond_false, Bool.not_true, Bool.not_false, goM, goN]); (try simp only [f_1, cond_true, cond_false, Bool.not_true, Bool.not_false, goM, goN]); (try simp only [g_1, cond_true, cond_false, Bool.not_true, Bool.not_false, goM, goN]); first | done | rfl)), rfl⟩
    | ok ev =>
      refine ds_then (E' := [.v ((eP PyData.int (eL (eT5 PyData.int PyData.int (eP PyData.int PyData.int) (eP PyData.int PyData.int) PyData.bool))) net), .v ((eL (eT4 PyData.int PyData.int (eP PyData.int PyData.int) PyData.bool)) (wishes.map asWS)), .v ((eT4 PyData.int PyData.int (eP PyData.int PyData.int) PyData.bool) a_2.2), .v (.int a_2.1)]) (ds_expr (de_call (f := "ask_way") (c_ask_way.at hr) rfl (da_cons (de_v 0 (pv 0)) (da_cons (de_it (de_v 2 (pv 2)) de_int) (da_cons (de_it (de_v 2 (pv 2)) de_int) (da_cons (de_it (de_v 2 (pv 2)) de_int) (da_cons (de_v 3 (pv 3)) da_nil))))) ⟨net, a_2.2.a, a_2.2.b, a_2.2.d, a_2.1, (by first | omega | assumption | exact pre_3 _ (List.mem_of_getElem? ha_1) | (have h9 := hwr _ (enumL_in (List.mem_of_getElem? ha_2)); omega) | (have h9 := hwr _ (by assumption); omega) | decide), (by first | omega | assumption | exact pre_3 _ (List.mem_of_getElem? ha_1) | (have h9 := hwr _ (enumL_in (List.mem_of_getElem? ha_2)); omega) | (have h9 := hwr _ (by assumption); omega) | decide), (by first | omega | assumption | exact pre_3 _ (List.mem_of_getElem? ha_1) | (have h9 := hwr _ (enumL_in (List.mem_of_getElem? ha_2)); omega) | (have h9 := hwr _ (by assumption); omega) | decide), rfl, by rw [g_1]; rfl⟩)) ?_
      exact ds_nil ⟨(), (by first | (simp only [l_made_wishes_2, c_1, f_1, g_1, cond_true, cond_false, Bool.not_true, Bool.not_false, goM, goN]; first | done | rfl) | (simp only [l_made_wishes_2]; rw [c_1, f_1, g_1]; first | done | rfl) | (simp only [l_made_wishes_2]; (try dsimp only at c_1); (try dsimp only at f_1); (try dsimp only at g_1); (try simp only [c_1, cond_true, cond_false, Bool.not_true, Bool.not_false, goM, goN]); (try simp only [f_1, cond_true, cond_false, Bool.not_true, Bool.not_false, goM, goN]); (try simp only [g_1, cond_true, cond_false, Bool.not_true, Bool.not_false, goM, goN]); first | done | rfl)), (by repeat (first | exact Le.nil | refine Le.same ?_ | refine Le.drop ?_)), (by first | trivial | omega)⟩
  · intro r o f_2 ho hr_
    have hm : m_made_wishes net wishes = r := (by simp only [m_made_wishes, f_2, goM, c_1, f_1, cond_true, cond_false, Bool.not_true, Bool.not_false, goM, goN]; try rfl)
    rw [hm]; exact hr_
  intro s_4 f_2 hi_2
  refine ds_ifr (dt_gt (de_sum rfl (DN.toL (f := PyData.int) (xs := ((wishes.map asWS).map (fun (a_3 : (T4 Int Int (Int × Int) Bool)) => ((m_ways_of net a_3).length : Int)))) (dn_lc (ea := (eT4 PyData.int PyData.int (eP PyData.int PyData.int) PyData.bool)) (eb := PyData.int) (items := (wishes.map asWS)) (fun (a_3 : (T4 Int Int (Int × Int) Bool)) => ((m_ways_of net a_3).length : Int)) rfl sc_made_wishes.nd (di_list (de_v 1 (pv 1))) (blkOk_by (N := N_made_wishes) (sc := defScope s_made_wishes) (own := [("wish", 2)]) (by decide +kernel)) (fun _ _ _ _ _ => (tg_name (ln 2 sc_made_wishes.nd))) (by rw [sizeLine_eq]; first | omega | (simp only [List.length_map, List.length_append, List.length_cons, List.length_nil, List.length_zip, rng_len]; omega)) (fun a_3 h_a_3 => ⟨[.v ((eP PyData.int (eL (eT5 PyData.int PyData.int (eP PyData.int PyData.int) (eP PyData.int PyData.int) PyData.bool))) net), .v ((eL (eT4 PyData.int PyData.int (eP PyData.int PyData.int) PyData.bool)) (wishes.map asWS)), .v ((eT4 PyData.int PyData.int (eP PyData.int PyData.int) PyData.bool) a_3), .no], rfl, fun _ _ _ _ _ => (de_lenL (DN.toS (v := (m_ways_of net a_3)) (dat_S (dat_L PyData.int)) (dn_call (f := "ways_of") (t := (oS (oL PyData.int)) (m_ways_of net a_3)) (c_ways_of.at hr) rfl (da_cons (de_v 0 (pv 0)) (da_cons (de_v 2 (pv 2)) da_nil)) ⟨net, a_3, (by first | omega | assumption | exact pre_3 _ (List.mem_of_getElem? ha_1) | (have h9 := hwr _ (enumL_in (List.mem_of_getElem? ha_2)); omega) | (have h9 := hwr _ (by assumption); omega) | decide), (by first | omega | assumption | exact pre_3 _ (List.mem_of_getElem? ha_1) | (have h9 := hwr _ (enumL_in (List.mem_of_getElem? ha_2)); omega) | (have h9 := hwr _ (by assumption); omega) | decide), (by first | omega | assumption | exact pre_3 _ (List.mem_of_getElem? ha_1) | (have h9 := hwr _ (enumL_in (List.mem_of_getElem? ha_2)); omega) | (have h9 := hwr _ (by assumption); omega) | decide), rfl, rfl⟩)) rfl T.b_len)⟩))) rfl T.b_sum) (de_const T.c_MOST_WAYS rfl)) (fun c_3 => ?_) (fun c_3 => ?_)
  · have q_c_3 := c_3
    try simp only [eqD_t, eqD_f, decide_eq_true_eq, decide_eq_false_iff_not, Bool.not_eq_true', Bool.not_eq_false', Bool.and_eq_true, Bool.or_eq_true, Bool.and_eq_false_iff, Bool.or_eq_false_iff, Bool.not_true, Bool.not_false, Bool.not_not, Decidable.not_not] at q_c_3
    exact ds_raise C T.x_TooMany rfl (by first | (simp only [m_made_wishes, resE, resEO, fin, c_1, f_1, f_2, c_3, cond_true, cond_false, Bool.not_true, Bool.not_false, goM, goN]; first | done | rfl) | (simp only [m_made_wishes, resE, resEO, fin]; rw [c_1, f_1, f_2, c_3]; first | done | rfl) | (simp only [m_made_wishes, resE, resEO, fin]; (try dsimp only at c_1); (try dsimp only at f_1); (try dsimp only at f_2); (try dsimp only at c_3); (try simp only [c_1, cond_true, cond_false, Bool.not_true, Bool.not_false, goM, goN]); (try simp only [f_1, cond_true, cond_false, Bool.not_true, Bool.not_false, goM, goN]); (try simp only [f_2, cond_true, cond_false, Bool.not_true, Bool.not_false, goM, goN]); (try simp only [c_3, cond_true, cond_false, Bool.not_true, Bool.not_false, goM, goN]); first | done | rfl))
  have q_c_3 := c_3
  try simp only [eqD_t, eqD_f, decide_eq_true_eq, decide_eq_false_iff_not, Bool.not_eq_true', Bool.not_eq_false', Bool.and_eq_true, Bool.or_eq_true, Bool.and_eq_false_iff, Bool.or_eq_false_iff, Bool.not_true, Bool.not_false, Bool.not_not, Decidable.not_not] at q_c_3
  exact ds_retN (dn_listL (de_v 1 (pv 1)) rfl T.b_list) (.inl (by first | (simp only [m_made_wishes, resE, resEO, c_1, f_1, f_2, c_3, cond_true, cond_false, Bool.not_true, Bool.not_false, goM, goN]; first | done | rfl) | (simp only [m_made_wishes, resE, resEO]; rw [c_1, f_1, f_2, c_3]; first | done | rfl) | (simp only [m_made_wishes, resE, resEO]; (try dsimp only at c_1); (try dsimp only at f_1); (try dsimp only at f_2); (try dsimp only at c_3); (try simp only [c_1, cond_true, cond_false, Bool.not_true, Bool.not_false, goM, goN]); (try simp only [f_1, cond_true, cond_false, Bool.not_true, Bool.not_false, goM, goN]); (try simp only [f_2, cond_true, cond_false, Bool.not_true, Bool.not_false, goM, goN]); (try simp only [c_3, cond_true, cond_false, Bool.not_true, Bool.not_false, goM, goN]); first | done | rfl)))
theorem made_codes {net : Int × List Rd} {ws : List PyData} {e : Er} (h : m_made_wishes net ws = .error e) : Cd e.c := by
  unfold m_made_wishes at h
  revert h
  cases (decide ((ws.length : Int) < (1 : Int)) || decide ((3 : Int) < (ws.length : Int))) with
  | true => intro h; cases h; exact .inl rfl
  | false =>
    rw [cond_false]
    have k1 : ∀ (xs : List PyData), forG (l_made_wishes_1 net) xs () = .nx () ∨ forG (l_made_wishes_1 net) xs () = .rt (.error (er 3)) := fun xs => by
      induction xs with
      | nil => exact .inl rfl
      | cons x xs ih =>
        rw [forG]
        unfold l_made_wishes_1
        cases m_wish_fits x net.1 with
        | true => exact ih
        | false => exact .inr rfl
    have k2 : ∀ (xs : List (Int × T4 Int Int Fr Bool)), forG (l_made_wishes_2 net) xs () = .nx () ∨ ∃ n r, forG (l_made_wishes_2 net) xs () = .rt (.error ⟨4, n, r⟩) := fun xs => by
      induction xs with
      | nil => exact .inl rfl
      | cons x xs ih =>
        rw [forG]
        have e : l_made_wishes_2 net () x = exG (m_ask_way net x.2.a x.2.b x.2.d x.1) (fun _ => .nx ()) := rfl
        rw [e, ask_is]
        by_cases c : x.2.b ∈ m_reached_from net x.2.a x.2.d
        · rw [if_pos c]; exact ih
        · rw [if_neg c]; exact .inr ⟨_, _, rfl⟩
    intro h
    rcases k1 ws with z | z
    · rw [goM_nx z] at h
      rcases k2 (enumL (ws.map asWS)) with y | ⟨n, r, y⟩
      · rw [goM_nx y] at h
        revert h
        cases decide ((10 : Int) < ((ws.map asWS).map (fun (a_3 : (T4 Int Int (Int × Int) Bool)) => ((m_ways_of net a_3).length : Int))).sum) with
        | true => intro h; cases h; exact .inr (.inr rfl)
        | false => intro h; cases h
      · rw [y] at h
        cases h
        exact .inr (.inl rfl)
    · rw [z] at h
      cases h
      exact .inl rfl

def m_l_whole (l_found : PySem.PyData) : Bool := ((isInt l_found) && (!(isBool l_found)))
def r_l_whole (xs : List PyData) (r : Res) : Prop := ∃ (l_found : PySem.PyData), xs = [l_found] ∧ r = .v (.bool (m_l_whole l_found))
abbrev N_l_whole : List Str := ["_law_found"]
theorem sc_l_whole : FnScope N_l_whole ["_law_found"] (defScope s_l_whole) := ⟨rfl, rfl, rfl, by decide +kernel, rfl, by decide +kernel, by decide +kernel⟩
theorem ok_l_whole (F : Def K mg "_law_whole" s_l_whole ["_law_found"]) (T : Txt K mg A)  : Cal P w K mg base "_law_whole" 1 r_l_whole 1 := by
  refine cal_ok F sc_l_whole rfl fun fa cdv AA outer ss HH EE X hX C hr xs r hl hR => ?_
  obtain ⟨l_found, rfl, rfl⟩ := hR
  subst hX
  show DSs _ _ _ [.v l_found] _
  exact ds_retD (de_and (de_isi (kit_int l_found) (de_v 0 (pv 0)) rfl T.b_isinstance rfl T.b_int) (fun _ => (de_one (de_not (de_isi (kit_bool l_found) (de_v 0 (pv 0)) rfl T.b_isinstance rfl T.b_bool))))) (.inl (by simp only [m_l_whole, cond_true, cond_false, Bool.not_true, Bool.not_false, goM, goN]; try rfl))
theorem lwhole_of {x : PyData} (h : m_l_whole x = true) : isWhole x = true := whole_mk h
theorem cells_len {ns : List Int} (h : ns.length ≤ 63) : 1 ≤ (ns ++ (List.replicate (if (eqD ns ([] : (List Int))) = true then (1 : Int) else 0).toNat (0 : Int))).length ∧ (ns ++ (List.replicate (if (eqD ns ([] : (List Int))) = true then (1 : Int) else 0).toNat (0 : Int))).length ≤ 63 := by
  cases ns with
  | nil => exact ⟨by decide, by decide⟩
  | cons a l =>
    have e : eqD (a :: l) ([] : List Int) = false := decide_eq_false (fun z => by cases z)
    rw [e]
    show 1 ≤ ((a :: l) ++ []).length ∧ ((a :: l) ++ []).length ≤ 63
    rw [List.append_nil]
    exact ⟨Nat.succ_le_succ (Nat.zero_le _), h⟩
theorem many_64 {n : Nat} (h : n ≤ 63) : max (64 : Int) (n : Int) = 64 := by omega
theorem base_ok : 0 < (((10 : Int) ^ 20) + (39 : Int)) ∧ (((10 : Int) ^ 20) + (39 : Int)) < 2 ^ 9000 := by
  have h : ((2 ^ 9000 : Nat) : Int) = (2 : Int) ^ 9000 := Int.natCast_pow 2 9000
  have e : (((10 : Int) ^ 20) + (39 : Int)) = ((100000000000000000039 : Nat) : Int) := by decide
  rw [e, ← h]
  exact ⟨by decide, Int.ofNat_lt.mpr (Nat.lt_of_lt_of_le (show 100000000000000000039 < 2 ^ 70 by decide) (Nat.pow_le_pow_right (by decide) (by decide)))⟩
theorem left_len {xs : List Int} {x : Int} (h : 1 ≤ xs.length) : (([x] : List Int) ++ cutG xs (some (1 : Int)) none).length = xs.length := by
  rw [cut_from xs (by decide) (by omega), List.length_append, List.length_drop]
  show 1 + (xs.length - 1) = xs.length
  omega
def l_l_draws_2 (k_l_base_here : Int) (s_2 : (List Int) × (List Int)) (a_2 : Int) : Go ((List Int) × (List Int)) Empty := (let l_draws_here_2 := (s_2.1 ++ [((gx s_2.2 a_2) % k_l_base_here)]); (let l_left_2 := (sx s_2.2 a_2 ((gx s_2.2 a_2) / k_l_base_here)); (.nx (l_draws_here_2, l_left_2))))
def l_l_draws_1 (k_l_cells : (List Int)) (k_l_many : Int) (k_l_base_here : Int) (s_1 : (List Int) × (List Int)) : Go ((List Int) × (List Int)) Empty := (goN (forG (l_l_draws_2 k_l_base_here) (rng 0 (k_l_cells.length : Int).toNat) (s_1.1, s_1.2)) (fun s_3 => (.nx (s_3.1, s_3.2))))
def l_l_draws_1_c (k_l_cells : (List Int)) (k_l_many : Int) (k_l_base_here : Int) (s_1 : (List Int) × (List Int)) : Bool := (decide ((s_1.1.length : Int) < k_l_many))
def l_l_draws_3 (k_l_cells : (List Int)) (k_l_base_here : Int) (s_5 : (List Int)) (a_3 : Int) : Go ((List Int)) Empty := (let l_number_1 := (((((gx k_l_cells (a_3 % (k_l_cells.length : Int))) + (((7919 : Int) * a_3) * a_3)) + (11 : Int)) * (48271 : Int)) % (2147483629 : Int)); (let l_draws_here_3 := (s_5 ++ [(((l_number_1 * l_number_1) * (1000000007 : Int)) % k_l_base_here)]); (.nx l_draws_here_3)))
def m_l_draws (l_script : (List Int)) : (List Int) := (let l_cells_1 := (l_script ++ (List.replicate (if (eqD l_script ([] : (List Int))) = true then (1 : Int) else 0).toNat (0 : Int))); (let l_many_1 := (max (64 : Int) (l_cells_1.length : Int)); (let l_base_here_1 := (((10 : Int) ^ 20) + (39 : Int)); (let l_draws_here_1 := ([] : (List Int)); (bif (decide (((gx l_cells_1 (0 : Int)) % (2 : Int)) = (0 : Int))) then (let l_left_1 := (([((gx l_cells_1 (0 : Int)) / (2 : Int))] : (List Int)) ++ (cutG l_cells_1 (some (1 : Int)) none)); (goN (whileG (l_l_draws_1_c l_cells_1 l_many_1 l_base_here_1) (l_l_draws_1 l_cells_1 l_many_1 l_base_here_1) ((fun (s_1 : (List Int) × (List Int)) => (64 - s_1.1.length)) (l_draws_here_1, l_left_1) + 1) (l_draws_here_1, l_left_1)) (fun s_4 => s_4.1))) else (goN (forG (l_l_draws_3 l_cells_1 l_base_here_1) (rng 0 l_many_1.toNat) l_draws_here_1) (fun s_6 => s_6)))))))
def r_l_draws (xs : List PyData) (r : Res) : Prop := ∃ (l_script : (List Int)), (l_script.length ≤ 63) ∧ xs = [((eL PyData.int) l_script)] ∧ r = .ok ((oL PyData.int) (m_l_draws l_script))
abbrev N_l_draws : List Str := ["_law_script", "_law_cells", "_law_many", "_law_base_here", "_law_draws_here", "_law_left", "_law_k", "_law_number"]
theorem sc_l_draws : FnScope N_l_draws ["_law_script"] (defScope s_l_draws) := ⟨rfl, rfl, rfl, by decide +kernel, rfl, by decide +kernel, by decide +kernel⟩
theorem ok_l_draws (F : Def K mg "_law_draws" s_l_draws ["_law_script"]) (T : Txt K mg A)  : Cal P w K mg base "_law_draws" 1 r_l_draws 1 := by
  refine cal_ok F sc_l_draws rfl fun fa cdv AA outer ss HH EE X hX C hr xs r hl hR => ?_
  obtain ⟨l_script, pre_0, rfl, rfl⟩ := hR
  subst hX
  show DSs _ _ _ [.v ((eL PyData.int) l_script), .no, .no, .no, .no, .no, .no, .no] _
  obtain ⟨l_cells_1, e_l_cells_1⟩ : ∃ z : (List Int), z = (l_script ++ (List.replicate (if (eqD l_script ([] : (List Int))) = true then (1 : Int) else 0).toNat (0 : Int))) := ⟨_, rfl⟩
  refine ds_then (E' := [.v ((eL PyData.int) l_script), .v ((eL PyData.int) l_cells_1), .no, .no, .no, .no, .no, .no]) (ds_set (x := ((eL PyData.int) l_cells_1)) (ln 1 sc_l_draws.nd) (deC (by subst e_l_cells_1; rfl) (DN.toL (f := PyData.int) (xs := (l_script ++ (List.replicate (if (eqD l_script ([] : (List Int))) = true then (1 : Int) else 0).toNat (0 : Int)))) (dn_catL (de_v 0 (pv 0)) (DN.toL (f := PyData.int) (xs := (List.replicate (if (eqD l_script ([] : (List Int))) = true then (1 : Int) else 0).toNat (0 : Int))) (dn_repL (f := PyData.int) de_int (de_intB (de_eqU (x := l_script) (y := ([] : (List Int))) hr.units (eqE_L eqE_int) (de_v 0 (pv 0)) (DN.toL (f := PyData.int) (xs := ([] : (List Int))) (dn_lst da_nil))) rfl T.b_int) (by first | omega | assumption | decide) (by first | omega | assumption | decide))) (by rw [sizeLine_eq]; first | omega | (have c1 := cutG_len l_cells_1 (some (1 : Int)) none; simp only [List.length_cons, List.length_nil]; omega) | (simp only [List.length_replicate]; split <;> omega) | (simp only [List.length_append, List.length_cons, List.length_nil, List.length_map, List.length_replicate]; omega)))))) ?_
  have hcl : 1 ≤ l_cells_1.length ∧ l_cells_1.length ≤ 63 := by rw [e_l_cells_1]; exact cells_len pre_0
  obtain ⟨l_many_1, e_l_many_1⟩ : ∃ z : Int, z = (max (64 : Int) (l_cells_1.length : Int)) := ⟨_, rfl⟩
  refine ds_then (E' := [.v ((eL PyData.int) l_script), .v ((eL PyData.int) l_cells_1), .v (.int l_many_1), .no, .no, .no, .no, .no]) (ds_set (x := (.int l_many_1)) (ln 2 sc_l_draws.nd) (deC (by subst e_l_many_1; rfl) (de_max2 rfl de_int (de_lenL (de_v 1 (pv 1)) rfl T.b_len) rfl T.b_max))) ?_
  have hmy : l_many_1 = 64 := by rw [e_l_many_1]; exact many_64 hcl.2
  obtain ⟨l_base_here_1, e_l_base_here_1⟩ : ∃ z : Int, z = (((10 : Int) ^ 20) + (39 : Int)) := ⟨_, rfl⟩
  refine ds_then (E' := [.v ((eL PyData.int) l_script), .v ((eL PyData.int) l_cells_1), .v (.int l_many_1), .v (.int l_base_here_1), .no, .no, .no, .no]) (ds_set (x := (.int l_base_here_1)) (ln 3 sc_l_draws.nd) (deC (by subst e_l_base_here_1; rfl) (de_add (de_powL 20 de_int de_int rfl (by decide) (by decide)) de_int))) ?_
  have hbs : 0 < l_base_here_1 ∧ l_base_here_1 < 2 ^ 9000 := by rw [e_l_base_here_1]; exact base_ok
  obtain ⟨l_draws_here_1, e_l_draws_here_1⟩ : ∃ z : (List Int), z = ([] : (List Int)) := ⟨_, rfl⟩
  refine ds_then (E' := [.v ((eL PyData.int) l_script), .v ((eL PyData.int) l_cells_1), .v (.int l_many_1), .v (.int l_base_here_1), .o (oL PyData.int l_draws_here_1), .no, .no, .no]) (ds_setN (t := oL PyData.int l_draws_here_1) (ln 4 sc_l_draws.nd) (dnC (by subst e_l_draws_here_1; rfl) (dn_lst da_nil))) ?_
  try (have hd2 : l_draws_here_1.length = s_2.1.length + 1 := by rw [e_l_draws_here_1]; simp)
  try (have hd5 : l_draws_here_1.length = s_5.length + 1 := by rw [e_l_draws_here_1]; simp)
  refine ds_ifr (dt_eqI (de_mod (de_ixL (de_v 1 (pv 1)) de_int (by first | first | exact ⟨by omega, by omega⟩ | (have h9 := Int.emod_nonneg a_3 (show (l_cells_1.length : Int) ≠ 0 by omega); have h8 := Int.emod_lt_of_pos a_3 (show 0 < (l_cells_1.length : Int) by omega); exact ⟨by omega, by omega⟩) | (first | exact ⟨by omega, by omega⟩ | exact inR_mod (by omega) | (unfold inR; simp only [List.length_map, List.length_append, List.length_cons, List.length_nil, List.length_replicate, rng_len, sx_len]; omega)))) de_int (by decide)) de_int) (fun c_1 => ?_) (fun c_1 => ?_)
  · have q_c_1 := c_1
    try simp only [eqD_t, eqD_f, decide_eq_true_eq, decide_eq_false_iff_not, Bool.not_eq_true', Bool.not_eq_false', Bool.and_eq_true, Bool.or_eq_true, Bool.and_eq_false_iff, Bool.or_eq_false_iff, Bool.not_true, Bool.not_false, Bool.not_not, Decidable.not_not] at q_c_1
    obtain ⟨l_left_1, e_l_left_1⟩ : ∃ z : (List Int), z = (([((gx l_cells_1 (0 : Int)) / (2 : Int))] : (List Int)) ++ (cutG l_cells_1 (some (1 : Int)) none)) := ⟨_, rfl⟩
    refine ds_then (E' := [.v ((eL PyData.int) l_script), .v ((eL PyData.int) l_cells_1), .v (.int l_many_1), .v (.int l_base_here_1), .o (oL PyData.int l_draws_here_1), .o (oL PyData.int l_left_1), .no, .no]) (ds_setN (t := oL PyData.int l_left_1) (ln 5 sc_l_draws.nd) (dnC (by subst e_l_left_1; rfl) (dn_catL (DN.toL (f := PyData.int) (xs := ([((gx l_cells_1 (0 : Int)) / (2 : Int))] : (List Int))) (dn_lst (da_cons (de_div (de_ixL (de_v 1 (pv 1)) de_int (by first | first | exact ⟨by omega, by omega⟩ | (have h9 := Int.emod_nonneg a_3 (show (l_cells_1.length : Int) ≠ 0 by omega); have h8 := Int.emod_lt_of_pos a_3 (show 0 < (l_cells_1.length : Int) by omega); exact ⟨by omega, by omega⟩) | (first | exact ⟨by omega, by omega⟩ | exact inR_mod (by omega) | (unfold inR; simp only [List.length_map, List.length_append, List.length_cons, List.length_nil, List.length_replicate, rng_len, sx_len]; omega)))) de_int ⟨by decide, by decide⟩) da_nil))) (DN.toL (f := PyData.int) (xs := (cutG l_cells_1 (some (1 : Int)) none)) (dn_cutL (de_v 1 (pv 1)) (do_som de_int) do_non)) (by rw [sizeLine_eq]; first | omega | (have c1 := cutG_len l_cells_1 (some (1 : Int)) none; simp only [List.length_cons, List.length_nil]; omega) | (simp only [List.length_replicate]; split <;> omega) | (simp only [List.length_append, List.length_cons, List.length_nil, List.length_map, List.length_replicate]; omega))))) ?_
    try (have hll : l_left_1.length = l_cells_1.length := by rw [e_l_left_1]; exact left_len hcl.1)
    try (have hl2 : l_left_1.length = s_2.2.length := by rw [e_l_left_1]; exact sx_len)
    refine ds_whileG (fun (s_1 : (List Int) × (List Int)) => [.v ((eL PyData.int) l_script), .v ((eL PyData.int) l_cells_1), .v (.int l_many_1), .v (.int l_base_here_1), .o (oL PyData.int s_1.1), .o (oL PyData.int s_1.2), .no, .no]) (l_l_draws_1_c l_cells_1 l_many_1 l_base_here_1) (l_l_draws_1 l_cells_1 l_many_1 l_base_here_1) (fun (s_1 : (List Int) × (List Int)) => (64 - s_1.1.length)) (l_draws_here_1, l_left_1) (fun (s_1 : (List Int) × (List Int)) => s_1.2.length = l_cells_1.length ∧ s_1.1.length ≤ 127) (fun (s_1 : (List Int) × (List Int)) => s_1.2.length = l_cells_1.length ∧ s_1.1.length ≤ 127) (fun (_ : Empty) _ => False) C (by repeat (first | exact Le.nil | refine Le.same ?_ | refine Le.drop ?_)) (by subst e_l_draws_here_1; exact ⟨hll, Nat.zero_le _⟩) ?_ ?_ (fun _ h _ => h) ?_ ?_
    · intro s_1 hi_1
      exact (dt_borrowS 4 (dat_L PyData.int) rfl (dt_lt (de_lenL (de_v 4 (pv 4)) rfl T.b_len) (de_v 2 (pv 2))))
    · intro s_1 hi_1 c_2
      have q_c_2 : (decide ((s_1.1.length : Int) < l_many_1)) = true := c_2
      try simp only [eqD_t, eqD_f, decide_eq_true_eq, decide_eq_false_iff_not, Bool.not_eq_true', Bool.not_eq_false', Bool.and_eq_true, Bool.or_eq_true, Bool.and_eq_false_iff, Bool.or_eq_false_iff, Bool.not_true, Bool.not_false, Bool.not_not, Decidable.not_not] at q_c_2
      refine ds_forG (items := (rng 0 (l_cells_1.length : Int).toNat)) (ea := PyData.int) (fun (s_2 : (List Int) × (List Int)) => [.v ((eL PyData.int) l_script), .v ((eL PyData.int) l_cells_1), .v (.int l_many_1), .v (.int l_base_here_1), .o (oL PyData.int s_2.1), .o (oL PyData.int s_2.2), .no, .no]) (l_l_draws_2 l_base_here_1) (s_1.1, s_1.2) (fun (i_2 : Nat) (s_2 : (List Int) × (List Int)) => s_2.2.length = l_cells_1.length ∧ ((s_2.1.length : Nat) : Int) = s_1.1.length + (i_2 : Int)) (fun (s_2 : (List Int) × (List Int)) => s_2.2.length = l_cells_1.length ∧ ((s_2.1.length : Nat) : Int) = s_1.1.length + (((rng 0 (l_cells_1.length : Int).toNat)).length : Int)) (fun (_ : Empty) _ => False) C (di_range1L (de_lenL (de_v 1 (pv 1)) rfl T.b_len) ⟨by omega, by omega⟩ rfl T.b_range) (tg_name (ln 6 sc_l_draws.nd)) (by repeat (first | exact Le.nil | refine Le.same ?_ | refine Le.drop ?_)) (by (try dsimp only at *); exact ⟨hi_1.1, by omega⟩) ?_ (fun _ h => h) ?_ ?_
      · intro i_2 a_2 s_2 ha_2 hi_2
        refine ⟨[.v ((eL PyData.int) l_script), .v ((eL PyData.int) l_cells_1), .v (.int l_many_1), .v (.int l_base_here_1), .o (oL PyData.int s_2.1), .o (oL PyData.int s_2.2), .v (.int a_2), .no], rfl, ?_⟩
        have hrg := rng_get ha_2
        obtain ⟨l_draws_here_2, e_l_draws_here_2⟩ : ∃ z : (List Int), z = (s_2.1 ++ [((gx s_2.2 a_2) % l_base_here_1)]) := ⟨_, rfl⟩
        refine ds_then (E' := [.v ((eL PyData.int) l_script), .v ((eL PyData.int) l_cells_1), .v (.int l_many_1), .v (.int l_base_here_1), .o (oL PyData.int l_draws_here_2), .o (oL PyData.int s_2.2), .v (.int a_2), .no]) (ds_appendL (f := PyData.int) (v := ((gx s_2.2 a_2) % l_base_here_1)) (xs := s_2.1) (fun _ => pv 4) (de_borrowS 5 (dat_L PyData.int) rfl (de_mod (de_ixL (de_v 5 (pv 5)) (de_v 6 (pv 6)) (by first | first | exact ⟨by omega, by omega⟩ | (have h9 := Int.emod_nonneg a_3 (show (l_cells_1.length : Int) ≠ 0 by omega); have h8 := Int.emod_lt_of_pos a_3 (show 0 < (l_cells_1.length : Int) by omega); exact ⟨by omega, by omega⟩) | (first | exact ⟨by omega, by omega⟩ | exact inR_mod (by omega) | (unfold inR; simp only [List.length_map, List.length_append, List.length_cons, List.length_nil, List.length_replicate, rng_len, sx_len]; omega)))) (de_v 3 (pv 3)) (by first | omega | assumption | decide))) rfl (by rw [sizeLine_eq]; (first | omega | (have h8 := hi_1; omega))) (by subst e_l_draws_here_2; rfl)) ?_
        try (have hd2 : l_draws_here_2.length = s_2.1.length + 1 := by rw [e_l_draws_here_2]; simp)
        try (have hd5 : l_draws_here_2.length = s_5.length + 1 := by rw [e_l_draws_here_2]; simp)
        obtain ⟨l_left_2, e_l_left_2⟩ : ∃ z : (List Int), z = (sx s_2.2 a_2 ((gx s_2.2 a_2) / l_base_here_1)) := ⟨_, rfl⟩
        refine ds_then (E' := [.v ((eL PyData.int) l_script), .v ((eL PyData.int) l_cells_1), .v (.int l_many_1), .v (.int l_base_here_1), .o (oL PyData.int l_draws_here_2), .o (oL PyData.int l_left_2), .v (.int a_2), .no]) (ds_setix (f := PyData.int) (v := ((gx s_2.2 a_2) / l_base_here_1)) (xs := s_2.2) (i := a_2) (fun _ => pv 5) (de_borrowS 5 (dat_L PyData.int) rfl (de_divW (de_ixL (de_v 5 (pv 5)) (de_v 6 (pv 6)) (by first | first | exact ⟨by omega, by omega⟩ | (have h9 := Int.emod_nonneg a_3 (show (l_cells_1.length : Int) ≠ 0 by omega); have h8 := Int.emod_lt_of_pos a_3 (show 0 < (l_cells_1.length : Int) by omega); exact ⟨by omega, by omega⟩) | (first | exact ⟨by omega, by omega⟩ | exact inR_mod (by omega) | (unfold inR; simp only [List.length_map, List.length_append, List.length_cons, List.length_nil, List.length_replicate, rng_len, sx_len]; omega)))) (de_v 3 (pv 3)) (by exact cdivw hbs.1 hbs.2))) (de_borrowS 5 (dat_L PyData.int) rfl (de_v 6 (pv 6))) rfl (by first | first | exact ⟨by omega, by omega⟩ | (have h9 := Int.emod_nonneg a_3 (show (l_cells_1.length : Int) ≠ 0 by omega); have h8 := Int.emod_lt_of_pos a_3 (show 0 < (l_cells_1.length : Int) by omega); exact ⟨by omega, by omega⟩) | (first | exact ⟨by omega, by omega⟩ | exact inR_mod (by omega) | (unfold inR; simp only [List.length_map, List.length_append, List.length_cons, List.length_nil, List.length_replicate, rng_len, sx_len]; omega))) (by subst e_l_left_2; rfl)) ?_
        try (have hll : l_left_2.length = l_cells_1.length := by rw [e_l_left_2]; exact left_len hcl.1)
        try (have hl2 : l_left_2.length = s_2.2.length := by rw [e_l_left_2]; exact sx_len)
        exact ds_nil ⟨(l_draws_here_2, l_left_2), (by subst e_l_cells_1 e_l_many_1 e_l_base_here_1 e_l_draws_here_1 e_l_left_1 e_l_draws_here_2 e_l_left_2; first | (simp only [l_l_draws_2, c_1, cond_true, cond_false, Bool.not_true, Bool.not_false, goM, goN]; first | done | rfl) | (simp only [l_l_draws_2]; rw [c_1]; first | done | rfl) | (simp only [l_l_draws_2]; (try dsimp only at c_1); (try simp only [c_1, cond_true, cond_false, Bool.not_true, Bool.not_false, goM, goN]); first | done | rfl)), (by repeat (first | exact Le.nil | refine Le.same ?_ | refine Le.drop ?_)), (by (try dsimp only at *); exact ⟨by omega, by omega⟩)⟩
      · intro r o f_1 ho hr_
        exact r.elim
      intro s_3 f_1 hi_2
      rw [rng_len] at hi_2
      exact ds_nil ⟨(s_3.1, s_3.2), (by subst e_l_cells_1 e_l_many_1 e_l_base_here_1 e_l_draws_here_1 e_l_left_1; first | (simp only [l_l_draws_1, c_1, f_1, cond_true, cond_false, Bool.not_true, Bool.not_false, goM, goN]; first | done | rfl) | (simp only [l_l_draws_1]; rw [c_1, f_1]; first | done | rfl) | (simp only [l_l_draws_1]; (try dsimp only at c_1); (try dsimp only at f_1); (try simp only [c_1, cond_true, cond_false, Bool.not_true, Bool.not_false, goM, goN]); (try simp only [f_1, cond_true, cond_false, Bool.not_true, Bool.not_false, goM, goN]); first | done | rfl)), (by repeat (first | exact Le.nil | refine Le.same ?_ | refine Le.drop ?_)), ⟨by (try dsimp only at *); exact ⟨by omega, by omega⟩, by (try dsimp only at *); omega⟩⟩
    · intro r o f_2 ho hr_
      exact r.elim
    intro s_4 f_2 hi_1
    exact ds_ret (db_v 4 (pv 4)) (.inl (by subst e_l_cells_1 e_l_many_1 e_l_base_here_1 e_l_draws_here_1 e_l_left_1; first | (simp only [m_l_draws, c_1, f_2, cond_true, cond_false, Bool.not_true, Bool.not_false, goM, goN]; first | done | rfl) | (simp only [m_l_draws]; rw [c_1, f_2]; first | done | rfl) | (simp only [m_l_draws]; (try dsimp only at c_1); (try dsimp only at f_2); (try simp only [c_1, cond_true, cond_false, Bool.not_true, Bool.not_false, goM, goN]); (try simp only [f_2, cond_true, cond_false, Bool.not_true, Bool.not_false, goM, goN]); first | done | rfl)))
  have q_c_1 := c_1
  try simp only [eqD_t, eqD_f, decide_eq_true_eq, decide_eq_false_iff_not, Bool.not_eq_true', Bool.not_eq_false', Bool.and_eq_true, Bool.or_eq_true, Bool.and_eq_false_iff, Bool.or_eq_false_iff, Bool.not_true, Bool.not_false, Bool.not_not, Decidable.not_not] at q_c_1
  refine ds_forG (items := (rng 0 l_many_1.toNat)) (ea := PyData.int) (fun (s_5 : (List Int)) => [.v ((eL PyData.int) l_script), .v ((eL PyData.int) l_cells_1), .v (.int l_many_1), .v (.int l_base_here_1), .o (oL PyData.int s_5), .no, .no, .no]) (l_l_draws_3 l_cells_1 l_base_here_1) l_draws_here_1 (fun (i_3 : Nat) (s_5 : (List Int)) => ((s_5.length : Nat) : Int) = (i_3 : Int)) (fun (s_5 : (List Int)) => ((s_5.length : Nat) : Int) = (((rng 0 l_many_1.toNat)).length : Int)) (fun (_ : Empty) _ => False) C (di_range1L (de_v 2 (pv 2)) ⟨by omega, by omega⟩ rfl T.b_range) (tg_name (ln 6 sc_l_draws.nd)) (by repeat (first | exact Le.nil | refine Le.same ?_ | refine Le.drop ?_)) (by subst e_l_draws_here_1; rfl) ?_ (fun _ h => h) ?_ ?_
  · intro i_3 a_3 s_5 ha_3 hi_3
    refine ⟨[.v ((eL PyData.int) l_script), .v ((eL PyData.int) l_cells_1), .v (.int l_many_1), .v (.int l_base_here_1), .o (oL PyData.int s_5), .no, .v (.int a_3), .no], rfl, ?_⟩
    have hrg := rng_get ha_3
    obtain ⟨l_number_1, e_l_number_1⟩ : ∃ z : Int, z = (((((gx l_cells_1 (a_3 % (l_cells_1.length : Int))) + (((7919 : Int) * a_3) * a_3)) + (11 : Int)) * (48271 : Int)) % (2147483629 : Int)) := ⟨_, rfl⟩
    refine ds_then (E' := [.v ((eL PyData.int) l_script), .v ((eL PyData.int) l_cells_1), .v (.int l_many_1), .v (.int l_base_here_1), .o (oL PyData.int s_5), .no, .v (.int a_3), .v (.int l_number_1)]) (ds_set (x := (.int l_number_1)) (ln 7 sc_l_draws.nd) (deC (by subst e_l_number_1; rfl) (de_mod (de_mul (de_add (de_add (de_ixL (de_v 1 (pv 1)) (de_mod (de_v 6 (pv 6)) (de_lenL (de_v 1 (pv 1)) rfl T.b_len) (by first | omega | assumption | decide)) (by first | first | exact ⟨by omega, by omega⟩ | (have h9 := Int.emod_nonneg a_3 (show (l_cells_1.length : Int) ≠ 0 by omega); have h8 := Int.emod_lt_of_pos a_3 (show 0 < (l_cells_1.length : Int) by omega); exact ⟨by omega, by omega⟩) | (first | exact ⟨by omega, by omega⟩ | exact inR_mod (by omega) | (unfold inR; simp only [List.length_map, List.length_append, List.length_cons, List.length_nil, List.length_replicate, rng_len, sx_len]; omega)))) (de_mulA (de_mul de_int (de_v 6 (pv 6)) (.inl ⟨by decide, by decide⟩)) (de_v 6 (pv 6)) (by exact .inl (.inl ⟨by omega, by omega⟩)))) de_int) de_int (.inr ⟨by decide, by decide⟩)) de_int (by decide)))) ?_
    obtain ⟨l_draws_here_3, e_l_draws_here_3⟩ : ∃ z : (List Int), z = (s_5 ++ [(((l_number_1 * l_number_1) * (1000000007 : Int)) % l_base_here_1)]) := ⟨_, rfl⟩
    refine ds_then (E' := [.v ((eL PyData.int) l_script), .v ((eL PyData.int) l_cells_1), .v (.int l_many_1), .v (.int l_base_here_1), .o (oL PyData.int l_draws_here_3), .no, .v (.int a_3), .v (.int l_number_1)]) (ds_appendL (f := PyData.int) (v := (((l_number_1 * l_number_1) * (1000000007 : Int)) % l_base_here_1)) (xs := s_5) (fun _ => pv 4) (de_mod (de_mul (de_mulA (de_v 7 (pv 7)) (de_v 7 (pv 7)) (by exact .inl (.inl ⟨by omega, by omega⟩))) de_int (.inr ⟨by decide, by decide⟩)) (de_v 3 (pv 3)) (by first | omega | assumption | decide)) rfl (by rw [sizeLine_eq]; (first | omega | (have h8 := hi_1; omega))) (by subst e_l_draws_here_3; rfl)) ?_
    try (have hd2 : l_draws_here_3.length = s_2.1.length + 1 := by rw [e_l_draws_here_3]; simp)
    try (have hd5 : l_draws_here_3.length = s_5.length + 1 := by rw [e_l_draws_here_3]; simp)
    exact ds_nil ⟨l_draws_here_3, (by subst e_l_cells_1 e_l_many_1 e_l_base_here_1 e_l_draws_here_1 e_l_number_1 e_l_draws_here_3; first | (simp only [l_l_draws_3, c_1, cond_true, cond_false, Bool.not_true, Bool.not_false, goM, goN]; first | done | rfl) | (simp only [l_l_draws_3]; rw [c_1]; first | done | rfl) | (simp only [l_l_draws_3]; (try dsimp only at c_1); (try simp only [c_1, cond_true, cond_false, Bool.not_true, Bool.not_false, goM, goN]); first | done | rfl)), (by repeat (first | exact Le.nil | refine Le.same ?_ | refine Le.drop ?_)), (by omega)⟩
  · intro r o f_3 ho hr_
    exact r.elim
  intro s_6 f_3 hi_3
  exact ds_ret (db_v 4 (pv 4)) (.inl (by subst e_l_cells_1 e_l_many_1 e_l_base_here_1 e_l_draws_here_1; first | (simp only [m_l_draws, c_1, f_3, cond_true, cond_false, Bool.not_true, Bool.not_false, goM, goN]; first | done | rfl) | (simp only [m_l_draws]; rw [c_1, f_3]; first | done | rfl) | (simp only [m_l_draws]; (try dsimp only at c_1); (try dsimp only at f_3); (try simp only [c_1, cond_true, cond_false, Bool.not_true, Bool.not_false, goM, goN]); (try simp only [f_3, cond_true, cond_false, Bool.not_true, Bool.not_false, goM, goN]); first | done | rfl)))
def m_l_mixed (l_draws_here : (List Int)) (l_k : Int) : Int := ((gx l_draws_here l_k) % (2147483629 : Int))
def r_l_mixed (xs : List PyData) (r : Res) : Prop := ∃ (l_draws_here : (List Int)) (l_k : Int), (0 ≤ l_k ∧ l_k < l_draws_here.length) ∧ xs = [((eL PyData.int) l_draws_here), (.int l_k)] ∧ r = .v (.int (m_l_mixed l_draws_here l_k))
abbrev N_l_mixed : List Str := ["_law_draws_here", "_law_k"]
theorem sc_l_mixed : FnScope N_l_mixed ["_law_draws_here", "_law_k"] (defScope s_l_mixed) := ⟨rfl, rfl, rfl, by decide +kernel, rfl, by decide +kernel, by decide +kernel⟩
theorem ok_l_mixed (F : Def K mg "_law_mixed" s_l_mixed ["_law_draws_here", "_law_k"]) (T : Txt K mg A)  : Cal P w K mg base "_law_mixed" 2 r_l_mixed 1 := by
  refine cal_ok F sc_l_mixed rfl fun fa cdv AA outer ss HH EE X hX C hr xs r hl hR => ?_
  obtain ⟨l_draws_here, l_k, pre_0, rfl, rfl⟩ := hR
  subst hX
  show DSs _ _ _ [.v ((eL PyData.int) l_draws_here), .v (.int l_k)] _
  exact ds_retD (de_mod (de_ixL (de_v 0 (pv 0)) (de_v 1 (pv 1)) (by first | exact ⟨by omega, by omega⟩ | exact inR_mod (by omega) | (unfold inR; simp only [List.length_map, List.length_append, List.length_cons, List.length_nil, List.length_replicate, rng_len, sx_len]; omega))) de_int (by decide)) (.inl (by simp only [m_l_mixed, cond_true, cond_false, Bool.not_true, Bool.not_false, goM, goN]; try rfl))
theorem mixed_nn (ds : List Int) (k : Int) : 0 ≤ m_l_mixed ds k := Int.emod_nonneg _ (by decide)
def l_l_base_1  (s_1 : Int) (a_1 : Int) : Go (Int) Empty := (let l_number_2 := (((s_1 * (1000003 : Int)) + (a_1 % (1000000007 : Int))) % (((10 : Int) ^ 18) + (1 : Int))); (.nx l_number_2))
def m_l_base (l_draws_here : (List Int)) (l_k : Int) : (Int × Int) := (let l_number_1 := ((l_k * (17 : Int)) + (5 : Int)); (goN (forG l_l_base_1 (pickG l_draws_here (some ((20 : Int) + l_k)) (some (64 : Int)) 12) l_number_1) (fun s_2 => ((s_2 * ((l_k % (4 : Int)) % (3 : Int))), (1 : Int)))))
def r_l_base (xs : List PyData) (r : Res) : Prop := ∃ (l_draws_here : (List Int)) (l_k : Int), (0 ≤ l_k ∧ l_k ≤ 12) ∧ (64 ≤ l_draws_here.length) ∧ xs = [((eL PyData.int) l_draws_here), (.int l_k)] ∧ r = .v ((eP PyData.int PyData.int) (m_l_base l_draws_here l_k))
abbrev N_l_base : List Str := ["_law_draws_here", "_law_k", "_law_number", "_law_cell"]
theorem sc_l_base : FnScope N_l_base ["_law_draws_here", "_law_k"] (defScope s_l_base) := ⟨rfl, rfl, rfl, by decide +kernel, rfl, by decide +kernel, by decide +kernel⟩
theorem ok_l_base (F : Def K mg "_law_base" s_l_base ["_law_draws_here", "_law_k"]) (T : Txt K mg A)  : Cal P w K mg base "_law_base" 2 r_l_base 1 := by
  refine cal_ok F sc_l_base rfl fun fa cdv AA outer ss HH EE X hX C hr xs r hl hR => ?_
  obtain ⟨l_draws_here, l_k, pre_0, pre_1, rfl, rfl⟩ := hR
  subst hX
  show DSs _ _ _ [.v ((eL PyData.int) l_draws_here), .v (.int l_k), .no, .no] _
  obtain ⟨l_number_1, e_l_number_1⟩ : ∃ z : Int, z = ((l_k * (17 : Int)) + (5 : Int)) := ⟨_, rfl⟩
  refine ds_then (E' := [.v ((eL PyData.int) l_draws_here), .v (.int l_k), .v (.int l_number_1), .no]) (ds_set (x := (.int l_number_1)) (ln 2 sc_l_base.nd) (deC (by subst e_l_number_1; rfl) (de_add (de_mul (de_v 1 (pv 1)) de_int (.inr ⟨by decide, by decide⟩)) de_int))) ?_
  refine ds_forG (items := (pickG l_draws_here (some ((20 : Int) + l_k)) (some (64 : Int)) 12)) (ea := PyData.int) (fun (s_1 : Int) => [.v ((eL PyData.int) l_draws_here), .v (.int l_k), .v (.int s_1), .no]) l_l_base_1 l_number_1 (fun (i_1 : Nat) (s_1 : Int) => True) (fun (s_1 : Int) => True) (fun (_ : Empty) _ => False) C (di_list (DN.toL (f := PyData.int) (xs := (pickG l_draws_here (some ((20 : Int) + l_k)) (some (64 : Int)) 12)) (dn_cutSL (de_v 0 (pv 0)) (do_som (de_add de_int (de_v 1 (pv 1)))) (do_som de_int) (by decide)))) (tg_name (ln 3 sc_l_base.nd)) (by repeat (first | exact Le.nil | refine Le.same ?_ | refine Le.drop ?_)) (by first | trivial | omega) ?_ (fun _ h => h) ?_ ?_
  · intro i_1 a_1 s_1 ha_1 hi_1
    refine ⟨[.v ((eL PyData.int) l_draws_here), .v (.int l_k), .v (.int s_1), .v (.int a_1)], rfl, ?_⟩
    obtain ⟨l_number_2, e_l_number_2⟩ : ∃ z : Int, z = (((s_1 * (1000003 : Int)) + (a_1 % (1000000007 : Int))) % (((10 : Int) ^ 18) + (1 : Int))) := ⟨_, rfl⟩
    refine ds_then (E' := [.v ((eL PyData.int) l_draws_here), .v (.int l_k), .v (.int l_number_2), .v (.int a_1)]) (ds_set (x := (.int l_number_2)) (ln 2 sc_l_base.nd) (deC (by subst e_l_number_2; rfl) (de_mod (de_add (de_mul (de_v 2 (pv 2)) de_int (.inr ⟨by decide, by decide⟩)) (de_mod (de_v 3 (pv 3)) de_int (by decide))) (de_add (de_powL 18 de_int de_int rfl (by decide) (by decide)) de_int) (by first | omega | assumption | decide | decide)))) ?_
    exact ds_nil ⟨l_number_2, (by subst e_l_number_1 e_l_number_2; simp only [l_l_base_1, cond_true, cond_false, Bool.not_true, Bool.not_false, goM, goN]; try rfl), (by repeat (first | exact Le.nil | refine Le.same ?_ | refine Le.drop ?_)), (by first | trivial | omega)⟩
  · intro r o f_1 ho hr_
    exact r.elim
  intro s_2 f_1 hi_1
  exact ds_retD (de_tup (da_cons (de_mulA (de_v 2 (pv 2)) (de_mod (de_mod (de_v 1 (pv 1)) de_int (by decide)) de_int (by decide)) (by first | exact .inl (.inl ⟨by omega, by omega⟩) | exact .inl (.inr ⟨by omega, by omega⟩))) (da_cons de_int da_nil))) (.inl (by subst e_l_number_1; first | (simp only [m_l_base, f_1, cond_true, cond_false, Bool.not_true, Bool.not_false, goM, goN]; first | done | rfl) | (simp only [m_l_base]; rw [f_1]; first | done | rfl) | (simp only [m_l_base]; (try dsimp only at f_1); (try simp only [f_1, cond_true, cond_false, Bool.not_true, Bool.not_false, goM, goN]); first | done | rfl)))
theorem shl_pos {m : Int} : 0 < (1 : Int) * 2 ^ m.toNat := by
  rw [Int.one_mul]; exact Int.pow_pos (by decide)
theorem lim12z (h : Int) : 0 ≤ ((h / (64 : Int)) % (13 : Int)) * (if (decide ((0 : Int) < ((h / (1024 : Int)) % (8 : Int)))) = true then (1 : Int) else 0) ∧ ((h / (64 : Int)) % (13 : Int)) * (if (decide ((0 : Int) < ((h / (1024 : Int)) % (8 : Int)))) = true then (1 : Int) else 0) ≤ 12 := by
  split <;> omega
theorem lim12 (h : Int) : (((h / (64 : Int)) % (13 : Int)) * (if (decide ((0 : Int) < ((h / (1024 : Int)) % (8 : Int)))) = true then (1 : Int) else 0)).toNat ≤ 12 := by
  split <;> omega
def l_l_net_1 (k_l_draws_here : (List Int)) (k_l_many : Int) (k_l_head : Int) (k_l_shut : Int) (s_1 : (List (T5 Int Int (Int × Int) (Int × Int) Bool))) (a_1 : Int) : Go ((List (T5 Int Int (Int × Int) (Int × Int) Bool))) Empty := (let l_cell_1 := (m_l_mixed k_l_draws_here ((5 : Int) + a_1)); (let l_start_1 := (l_cell_1 % k_l_many); (let l_end_1 := (((l_start_1 + (1 : Int)) + ((l_cell_1 / (6 : Int)) % (k_l_many - (1 : Int)))) % k_l_many); (let p_1 := (bif ((decide (((k_l_head / (8192 : Int)) % (3 : Int)) = (1 : Int))) && ((decide ((bAnd (k_l_shut / 2 ^ l_start_1.toNat) (1 : Int)) = (1 : Int))) && (decide ((bAnd (k_l_shut / 2 ^ l_end_1.toNat) (1 : Int)) = (0 : Int))))) then (l_end_1, l_start_1) else (l_start_1, l_end_1)); (let l_roads_2 := (s_1 ++ [(⟨p_1.1, p_1.2, (m_l_base k_l_draws_here a_1), (((l_cell_1 / (36 : Int)) % (5 : Int)), (1 : Int)), (decide (((l_cell_1 / (180 : Int)) % (4 : Int)) = (1 : Int)))⟩ : (T5 Int Int (Int × Int) (Int × Int) Bool))]); (.nx l_roads_2))))))
def m_l_net (l_draws_here : (List Int)) : (Int × (List (T5 Int Int (Int × Int) (Int × Int) Bool))) := (let l_many_1 := ((2 : Int) + ((gx l_draws_here (0 : Int)) % (5 : Int))); (let l_head_1 := (m_l_mixed l_draws_here (1 : Int)); (let l_shut_1 := (l_head_1 % ((1 : Int) * 2 ^ l_many_1.toNat)); (let l_roads_1 := ([] : (List (T5 Int Int (Int × Int) (Int × Int) Bool))); (goN (forG (l_l_net_1 l_draws_here l_many_1 l_head_1 l_shut_1) (rng 0 (((l_head_1 / (64 : Int)) % (13 : Int)) * (if (decide ((0 : Int) < ((l_head_1 / (1024 : Int)) % (8 : Int)))) = true then (1 : Int) else 0)).toNat) l_roads_1) (fun s_2 => (l_many_1, s_2)))))))
def r_l_net (xs : List PyData) (r : Res) : Prop := ∃ (l_draws_here : (List Int)), (64 ≤ l_draws_here.length) ∧ xs = [((eL PyData.int) l_draws_here)] ∧ r = .ok ((oPL PyData.int (eT5 PyData.int PyData.int (eP PyData.int PyData.int) (eP PyData.int PyData.int) PyData.bool)) (m_l_net l_draws_here))
abbrev N_l_net : List Str := ["_law_draws_here", "_law_many", "_law_head", "_law_shut", "_law_roads", "_law_k", "_law_cell", "_law_start", "_law_end"]
theorem sc_l_net : FnScope N_l_net ["_law_draws_here"] (defScope s_l_net) := ⟨rfl, rfl, rfl, by decide +kernel, rfl, by decide +kernel, by decide +kernel⟩
theorem ok_l_net (F : Def K mg "_law_net" s_l_net ["_law_draws_here"]) (T : Txt K mg A) (c_l_mixed : Cal P w K mg base "_law_mixed" 2 r_l_mixed 1) (c_l_base : Cal P w K mg base "_law_base" 2 r_l_base 1) : Cal P w K mg base "_law_net" 1 r_l_net 2 := by
  refine cal_ok F sc_l_net rfl fun fa cdv AA outer ss HH EE X hX C hr xs r hl hR => ?_
  obtain ⟨l_draws_here, pre_0, rfl, rfl⟩ := hR
  subst hX
  show DSs _ _ _ [.v ((eL PyData.int) l_draws_here), .no, .no, .no, .no, .no, .no, .no, .no] _
  obtain ⟨l_many_1, e_l_many_1⟩ : ∃ z : Int, z = ((2 : Int) + ((gx l_draws_here (0 : Int)) % (5 : Int))) := ⟨_, rfl⟩
  refine ds_then (E' := [.v ((eL PyData.int) l_draws_here), .v (.int l_many_1), .no, .no, .no, .no, .no, .no, .no]) (ds_set (x := (.int l_many_1)) (ln 1 sc_l_net.nd) (deC (by subst e_l_many_1; rfl) (de_add de_int (de_mod (de_ixL (de_v 0 (pv 0)) de_int (by first | exact ⟨by omega, by omega⟩ | exact inR_mod (by omega) | (unfold inR; simp only [List.length_map, List.length_append, List.length_cons, List.length_nil, List.length_replicate, rng_len, sx_len]; omega))) de_int (by decide))))) ?_
  have hm : 2 ≤ l_many_1 ∧ l_many_1 ≤ 6 := by rw [e_l_many_1]; omega
  obtain ⟨l_head_1, e_l_head_1⟩ : ∃ z : Int, z = (m_l_mixed l_draws_here (1 : Int)) := ⟨_, rfl⟩
  refine ds_then (E' := [.v ((eL PyData.int) l_draws_here), .v (.int l_many_1), .v (.int l_head_1), .no, .no, .no, .no, .no, .no]) (ds_set (x := (.int l_head_1)) (ln 2 sc_l_net.nd) (deC (by subst e_l_head_1; rfl) (de_call (f := "_law_mixed") (c_l_mixed.at hr) rfl (da_cons (de_v 0 (pv 0)) (da_cons de_int da_nil)) ⟨l_draws_here, (1 : Int), (by first | omega | assumption | exact shl_pos | (have h7 := rng_get ha_1; omega) | decide), rfl, rfl⟩))) ?_
  have hmx : 0 ≤ l_head_1 := by rw [e_l_head_1]; exact mixed_nn _ _
  have hlz := lim12z l_head_1
  obtain ⟨l_shut_1, e_l_shut_1⟩ : ∃ z : Int, z = (l_head_1 % ((1 : Int) * 2 ^ l_many_1.toNat)) := ⟨_, rfl⟩
  refine ds_then (E' := [.v ((eL PyData.int) l_draws_here), .v (.int l_many_1), .v (.int l_head_1), .v (.int l_shut_1), .no, .no, .no, .no, .no]) (ds_set (x := (.int l_shut_1)) (ln 3 sc_l_net.nd) (deC (by subst e_l_shut_1; rfl) (de_mod (de_v 2 (pv 2)) (de_shl de_int (de_v 1 (pv 1)) (by exact ⟨by omega, by omega, by decide⟩)) (by first | omega | assumption | exact shl_pos | (have h7 := rng_get ha_1; omega) | decide)))) ?_
  obtain ⟨l_roads_1, e_l_roads_1⟩ : ∃ z : (List (T5 Int Int (Int × Int) (Int × Int) Bool)), z = ([] : (List (T5 Int Int (Int × Int) (Int × Int) Bool))) := ⟨_, rfl⟩
  refine ds_then (E' := [.v ((eL PyData.int) l_draws_here), .v (.int l_many_1), .v (.int l_head_1), .v (.int l_shut_1), .o (oL (eT5 PyData.int PyData.int (eP PyData.int PyData.int) (eP PyData.int PyData.int) PyData.bool) l_roads_1), .no, .no, .no, .no]) (ds_setN (t := oL (eT5 PyData.int PyData.int (eP PyData.int PyData.int) (eP PyData.int PyData.int) PyData.bool) l_roads_1) (ln 4 sc_l_net.nd) (dnC (by subst e_l_roads_1; rfl) (dn_lst da_nil))) ?_
  refine ds_forG (items := (rng 0 (((l_head_1 / (64 : Int)) % (13 : Int)) * (if (decide ((0 : Int) < ((l_head_1 / (1024 : Int)) % (8 : Int)))) = true then (1 : Int) else 0)).toNat)) (ea := PyData.int) (fun (s_1 : (List (T5 Int Int (Int × Int) (Int × Int) Bool))) => [.v ((eL PyData.int) l_draws_here), .v (.int l_many_1), .v (.int l_head_1), .v (.int l_shut_1), .o (oL (eT5 PyData.int PyData.int (eP PyData.int PyData.int) (eP PyData.int PyData.int) PyData.bool) s_1), .no, .no, .no, .no]) (l_l_net_1 l_draws_here l_many_1 l_head_1 l_shut_1) l_roads_1 (fun (i_1 : Nat) (s_1 : (List (T5 Int Int (Int × Int) (Int × Int) Bool))) => ((s_1.length : Nat) : Int) = (i_1 : Int)) (fun (s_1 : (List (T5 Int Int (Int × Int) (Int × Int) Bool))) => ((s_1.length : Nat) : Int) = (((rng 0 (((l_head_1 / (64 : Int)) % (13 : Int)) * (if (decide ((0 : Int) < ((l_head_1 / (1024 : Int)) % (8 : Int)))) = true then (1 : Int) else 0)).toNat)).length : Int)) (fun (_ : Empty) _ => False) C (di_range1L (de_mulA (de_mod (de_div (de_v 2 (pv 2)) de_int ⟨by decide, by decide⟩) de_int (by decide)) (de_intB (de_gt (de_mod (de_div (de_v 2 (pv 2)) de_int ⟨by decide, by decide⟩) de_int (by decide)) de_int) rfl T.b_int) (by first | exact .inl (.inl ⟨by omega, by omega⟩) | exact .inl (.inr (by split <;> decide)))) ⟨by omega, by omega⟩ rfl T.b_range) (tg_name (ln 5 sc_l_net.nd)) (by repeat (first | exact Le.nil | refine Le.same ?_ | refine Le.drop ?_)) (by subst e_l_roads_1; rfl) ?_ (fun _ h => h) ?_ ?_
  · intro i_1 a_1 s_1 ha_1 hi_1
    refine ⟨[.v ((eL PyData.int) l_draws_here), .v (.int l_many_1), .v (.int l_head_1), .v (.int l_shut_1), .o (oL (eT5 PyData.int PyData.int (eP PyData.int PyData.int) (eP PyData.int PyData.int) PyData.bool) s_1), .v (.int a_1), .no, .no, .no], rfl, ?_⟩
    have hrg := rng_get ha_1
    have hlim := lim12 l_head_1
    have hr9 : a_1 < 13 := by omega
    obtain ⟨l_cell_1, e_l_cell_1⟩ : ∃ z : Int, z = (m_l_mixed l_draws_here ((5 : Int) + a_1)) := ⟨_, rfl⟩
    refine ds_then (E' := [.v ((eL PyData.int) l_draws_here), .v (.int l_many_1), .v (.int l_head_1), .v (.int l_shut_1), .o (oL (eT5 PyData.int PyData.int (eP PyData.int PyData.int) (eP PyData.int PyData.int) PyData.bool) s_1), .v (.int a_1), .v (.int l_cell_1), .no, .no]) (ds_set (x := (.int l_cell_1)) (ln 6 sc_l_net.nd) (deC (by subst e_l_cell_1; rfl) (de_call (f := "_law_mixed") (c_l_mixed.at hr) rfl (da_cons (de_v 0 (pv 0)) (da_cons (de_add de_int (de_v 5 (pv 5))) da_nil)) ⟨l_draws_here, ((5 : Int) + a_1), (by first | omega | assumption | exact shl_pos | (have h7 := rng_get ha_1; omega) | decide), rfl, rfl⟩))) ?_
    have hcx : 0 ≤ l_cell_1 := by rw [e_l_cell_1]; exact mixed_nn _ _
    obtain ⟨l_start_1, e_l_start_1⟩ : ∃ z : Int, z = (l_cell_1 % l_many_1) := ⟨_, rfl⟩
    refine ds_then (E' := [.v ((eL PyData.int) l_draws_here), .v (.int l_many_1), .v (.int l_head_1), .v (.int l_shut_1), .o (oL (eT5 PyData.int PyData.int (eP PyData.int PyData.int) (eP PyData.int PyData.int) PyData.bool) s_1), .v (.int a_1), .v (.int l_cell_1), .v (.int l_start_1), .no]) (ds_set (x := (.int l_start_1)) (ln 7 sc_l_net.nd) (deC (by subst e_l_start_1; rfl) (de_mod (de_v 6 (pv 6)) (de_v 1 (pv 1)) (by first | omega | assumption | exact shl_pos | (have h7 := rng_get ha_1; omega) | decide)))) ?_
    have hst : 0 ≤ l_start_1 ∧ l_start_1 < l_many_1 := by rw [e_l_start_1]; exact ⟨Int.emod_nonneg _ (by omega), Int.emod_lt_of_pos _ (by omega)⟩
    obtain ⟨l_end_1, e_l_end_1⟩ : ∃ z : Int, z = (((l_start_1 + (1 : Int)) + ((l_cell_1 / (6 : Int)) % (l_many_1 - (1 : Int)))) % l_many_1) := ⟨_, rfl⟩
    refine ds_then (E' := [.v ((eL PyData.int) l_draws_here), .v (.int l_many_1), .v (.int l_head_1), .v (.int l_shut_1), .o (oL (eT5 PyData.int PyData.int (eP PyData.int PyData.int) (eP PyData.int PyData.int) PyData.bool) s_1), .v (.int a_1), .v (.int l_cell_1), .v (.int l_start_1), .v (.int l_end_1)]) (ds_set (x := (.int l_end_1)) (ln 8 sc_l_net.nd) (deC (by subst e_l_end_1; rfl) (de_mod (de_add (de_add (de_v 7 (pv 7)) de_int) (de_mod (de_div (de_v 6 (pv 6)) de_int ⟨by decide, by decide⟩) (de_sub (de_v 1 (pv 1)) de_int) (by first | omega | assumption | exact shl_pos | (have h7 := rng_get ha_1; omega) | decide))) (de_v 1 (pv 1)) (by first | omega | assumption | exact shl_pos | (have h7 := rng_get ha_1; omega) | decide)))) ?_
    have hen : 0 ≤ l_end_1 ∧ l_end_1 < l_many_1 := by rw [e_l_end_1]; exact ⟨Int.emod_nonneg _ (by omega), Int.emod_lt_of_pos _ (by omega)⟩
    obtain ⟨p_1, e_p_1⟩ : ∃ z : Int × Int, z = (bif ((decide (((l_head_1 / (8192 : Int)) % (3 : Int)) = (1 : Int))) && ((decide ((bAnd (l_shut_1 / 2 ^ l_start_1.toNat) (1 : Int)) = (1 : Int))) && (decide ((bAnd (l_shut_1 / 2 ^ l_end_1.toNat) (1 : Int)) = (0 : Int))))) then (l_end_1, l_start_1) else (l_start_1, l_end_1)) := ⟨_, rfl⟩
    refine ds_ifl (E' := [.v ((eL PyData.int) l_draws_here), .v (.int l_many_1), .v (.int l_head_1), .v (.int l_shut_1), .o (oL (eT5 PyData.int PyData.int (eP PyData.int PyData.int) (eP PyData.int PyData.int) PyData.bool) s_1), .v (.int a_1), .v (.int l_cell_1), .v (.int p_1.1), .v (.int p_1.2)]) (DW.toT (dw_and (dt_eqI (de_mod (de_div (de_v 2 (pv 2)) de_int ⟨by decide, by decide⟩) de_int (by decide)) de_int) (fun h_2 => by have q := h_2; (try simp only [eqD_t, eqD_f, decide_eq_true_eq, decide_eq_false_iff_not, Bool.not_eq_true', Bool.not_eq_false', Bool.and_eq_true, Bool.or_eq_true, Bool.and_eq_false_iff, Bool.or_eq_false_iff, Bool.not_true, Bool.not_false, Bool.not_not, Decidable.not_not] at q); exact (dw_and (dt_eqI (de_band (de_shr (de_v 3 (pv 3)) (de_v 7 (pv 7)) (by first | omega | assumption | exact shl_pos | (have h7 := rng_get ha_1; omega) | decide)) de_int) de_int) (fun h_1 => by have q := h_1; (try simp only [eqD_t, eqD_f, decide_eq_true_eq, decide_eq_false_iff_not, Bool.not_eq_true', Bool.not_eq_false', Bool.and_eq_true, Bool.or_eq_true, Bool.and_eq_false_iff, Bool.or_eq_false_iff, Bool.not_true, Bool.not_false, Bool.not_not, Decidable.not_not] at q); exact (dw_and1 (dt_eqI (de_band (de_shr (de_v 3 (pv 3)) (de_v 8 (pv 8)) (by first | omega | assumption | exact shl_pos | (have h7 := rng_get ha_1; omega) | decide)) de_int) de_int))))))) (fun c_1 => ?_) (fun c_1 => ?_) ?_
    · have q_c_1 := c_1
      try simp only [eqD_t, eqD_f, decide_eq_true_eq, decide_eq_false_iff_not, Bool.not_eq_true', Bool.not_eq_false', Bool.and_eq_true, Bool.or_eq_true, Bool.and_eq_false_iff, Bool.or_eq_false_iff, Bool.not_true, Bool.not_false, Bool.not_not, Decidable.not_not] at q_c_1
      refine ds_then (E' := [.v ((eL PyData.int) l_draws_here), .v (.int l_many_1), .v (.int l_head_1), .v (.int l_shut_1), .o (oL (eT5 PyData.int PyData.int (eP PyData.int PyData.int) (eP PyData.int PyData.int) PyData.bool) s_1), .v (.int a_1), .v (.int l_cell_1), .v (.int l_end_1), .v (.int l_start_1)]) (ds_par (x := (.int l_end_1)) (y := (.int l_start_1)) rfl (ln 7 sc_l_net.nd) (ln 8 sc_l_net.nd) (by decide) (de_v 8 (pv 8)) (de_v 7 (pv 7)) rfl rfl (by rfl)) ?_
      exact ds_nil (by subst e_p_1; (try simp only [c_1, cond_true, cond_false, Bool.not_true, Bool.not_false, goM, goN]); (show Le _ _); repeat (first | exact Le.nil | refine Le.same ?_ | refine Le.drop ?_))
    · have q_c_1 := c_1
      try simp only [eqD_t, eqD_f, decide_eq_true_eq, decide_eq_false_iff_not, Bool.not_eq_true', Bool.not_eq_false', Bool.and_eq_true, Bool.or_eq_true, Bool.and_eq_false_iff, Bool.or_eq_false_iff, Bool.not_true, Bool.not_false, Bool.not_not, Decidable.not_not] at q_c_1
      exact ds_nil (by subst e_p_1; (try simp only [c_1, cond_true, cond_false, Bool.not_true, Bool.not_false, goM, goN]); (show Le _ _); repeat (first | exact Le.nil | refine Le.same ?_ | refine Le.drop ?_))
    obtain ⟨l_roads_2, e_l_roads_2⟩ : ∃ z : (List (T5 Int Int (Int × Int) (Int × Int) Bool)), z = (s_1 ++ [(⟨p_1.1, p_1.2, (m_l_base l_draws_here a_1), (((l_cell_1 / (36 : Int)) % (5 : Int)), (1 : Int)), (decide (((l_cell_1 / (180 : Int)) % (4 : Int)) = (1 : Int)))⟩ : (T5 Int Int (Int × Int) (Int × Int) Bool))]) := ⟨_, rfl⟩
    refine ds_then (E' := [.v ((eL PyData.int) l_draws_here), .v (.int l_many_1), .v (.int l_head_1), .v (.int l_shut_1), .o (oL (eT5 PyData.int PyData.int (eP PyData.int PyData.int) (eP PyData.int PyData.int) PyData.bool) l_roads_2), .v (.int a_1), .v (.int l_cell_1), .v (.int p_1.1), .v (.int p_1.2)]) (ds_appendL (f := (eT5 PyData.int PyData.int (eP PyData.int PyData.int) (eP PyData.int PyData.int) PyData.bool)) (v := (⟨p_1.1, p_1.2, (m_l_base l_draws_here a_1), (((l_cell_1 / (36 : Int)) % (5 : Int)), (1 : Int)), (decide (((l_cell_1 / (180 : Int)) % (4 : Int)) = (1 : Int)))⟩ : (T5 Int Int (Int × Int) (Int × Int) Bool))) (xs := s_1) (fun _ => pv 4) (de_tup (da_cons (de_v 7 (pv 7)) (da_cons (de_v 8 (pv 8)) (da_cons (de_call (f := "_law_base") (c_l_base.at hr) rfl (da_cons (de_v 0 (pv 0)) (da_cons (de_v 5 (pv 5)) da_nil)) ⟨l_draws_here, a_1, (by first | omega | assumption | exact shl_pos | (have h7 := rng_get ha_1; omega) | decide), (by first | omega | assumption | exact shl_pos | (have h7 := rng_get ha_1; omega) | decide), rfl, rfl⟩) (da_cons (de_tup (da_cons (de_mod (de_div (de_v 6 (pv 6)) de_int ⟨by decide, by decide⟩) de_int (by decide)) (da_cons de_int da_nil))) (da_cons (de_eqI (de_mod (de_div (de_v 6 (pv 6)) de_int ⟨by decide, by decide⟩) de_int (by decide)) de_int) da_nil)))))) rfl (by rw [sizeLine_eq]; (have h8 := hi_1; have h7 := rng_get ha_1; omega)) (by subst e_l_roads_2; rfl)) ?_
    exact ds_nil ⟨l_roads_2, (by subst e_l_many_1 e_l_head_1 e_l_shut_1 e_l_roads_1 e_l_cell_1 e_l_start_1 e_l_end_1 e_p_1 e_l_roads_2; simp only [l_l_net_1, cond_true, cond_false, Bool.not_true, Bool.not_false, goM, goN]; try rfl), (by repeat (first | exact Le.nil | refine Le.same ?_ | refine Le.drop ?_)), (by subst e_l_roads_2; rw [List.length_append]; show (((s_1.length + 1 : Nat)) : Int) = _; omega)⟩
  · intro r o f_1 ho hr_
    exact r.elim
  intro s_2 f_1 hi_1
  exact ds_ret (db_pair (f := PyData.int) (g := (eT5 PyData.int PyData.int (eP PyData.int PyData.int) (eP PyData.int PyData.int) PyData.bool)) (x := l_many_1) (ys := s_2) (de_v 1 (pv 1)) (db_v 4 (pv 4))) (.inl (by subst e_l_many_1 e_l_head_1 e_l_shut_1 e_l_roads_1; first | (simp only [m_l_net, f_1, cond_true, cond_false, Bool.not_true, Bool.not_false, goM, goN]; first | done | rfl) | (simp only [m_l_net]; rw [f_1]; first | done | rfl) | (simp only [m_l_net]; (try dsimp only at f_1); (try simp only [f_1, cond_true, cond_false, Bool.not_true, Bool.not_false, goM, goN]); first | done | rfl)))
def l_l_wishes_1 (k_l_draws_here : (List Int)) (k_l_many : Int) (s_1 : (List (T4 Int Int (Int × Int) Bool))) (a_1 : Int) : Go ((List (T4 Int Int (Int × Int) Bool))) Empty := (let l_cell_1 := (m_l_mixed k_l_draws_here ((2 : Int) + a_1)); (let p_1 := (bif (decide ((((gx k_l_draws_here (0 : Int)) / (15 : Int)) % (4 : Int)) = (1 : Int))) then (let l_cell_2 := (m_l_mixed k_l_draws_here (2 : Int)); l_cell_2) else l_cell_1); (let l_start_1 := (p_1 % k_l_many); (let l_end_1 := (((l_start_1 + (1 : Int)) + ((p_1 / (6 : Int)) % (k_l_many - (1 : Int)))) % k_l_many); (let l_wishes_here_2 := (s_1 ++ [(⟨l_start_1, l_end_1, (((1 : Int) + ((p_1 / (36 : Int)) % ((10 : Int) ^ 9))), (1 : Int)), (decide (((p_1 / (42 : Int)) % (3 : Int)) = (1 : Int)))⟩ : (T4 Int Int (Int × Int) Bool))]); (.nx l_wishes_here_2))))))
def m_l_wishes (l_draws_here : (List Int)) (l_many : Int) : (List (T4 Int Int (Int × Int) Bool)) := (let l_wishes_here_1 := ([] : (List (T4 Int Int (Int × Int) Bool))); (goN (forG (l_l_wishes_1 l_draws_here l_many) (rng 0 ((1 : Int) + (((gx l_draws_here (0 : Int)) / (5 : Int)) % (3 : Int))).toNat) l_wishes_here_1) (fun s_2 => s_2)))
def r_l_wishes (xs : List PyData) (r : Res) : Prop := ∃ (l_draws_here : (List Int)) (l_many : Int), (64 ≤ l_draws_here.length) ∧ (2 ≤ l_many ∧ l_many ≤ 6) ∧ xs = [((eL PyData.int) l_draws_here), (.int l_many)] ∧ r = .ok ((oL (eT4 PyData.int PyData.int (eP PyData.int PyData.int) PyData.bool)) (m_l_wishes l_draws_here l_many))
abbrev N_l_wishes : List Str := ["_law_draws_here", "_law_many", "_law_wishes_here", "_law_k", "_law_cell", "_law_start", "_law_end"]
theorem sc_l_wishes : FnScope N_l_wishes ["_law_draws_here", "_law_many"] (defScope s_l_wishes) := ⟨rfl, rfl, rfl, by decide +kernel, rfl, by decide +kernel, by decide +kernel⟩
theorem ok_l_wishes (F : Def K mg "_law_wishes" s_l_wishes ["_law_draws_here", "_law_many"]) (T : Txt K mg A) (c_l_mixed : Cal P w K mg base "_law_mixed" 2 r_l_mixed 1) : Cal P w K mg base "_law_wishes" 2 r_l_wishes 2 := by
  refine cal_ok F sc_l_wishes rfl fun fa cdv AA outer ss HH EE X hX C hr xs r hl hR => ?_
  obtain ⟨l_draws_here, l_many, pre_0, pre_1, rfl, rfl⟩ := hR
  subst hX
  show DSs _ _ _ [.v ((eL PyData.int) l_draws_here), .v (.int l_many), .no, .no, .no, .no, .no] _
  obtain ⟨l_wishes_here_1, e_l_wishes_here_1⟩ : ∃ z : (List (T4 Int Int (Int × Int) Bool)), z = ([] : (List (T4 Int Int (Int × Int) Bool))) := ⟨_, rfl⟩
  refine ds_then (E' := [.v ((eL PyData.int) l_draws_here), .v (.int l_many), .o (oL (eT4 PyData.int PyData.int (eP PyData.int PyData.int) PyData.bool) l_wishes_here_1), .no, .no, .no, .no]) (ds_setN (t := oL (eT4 PyData.int PyData.int (eP PyData.int PyData.int) PyData.bool) l_wishes_here_1) (ln 2 sc_l_wishes.nd) (dnC (by subst e_l_wishes_here_1; rfl) (dn_lst da_nil))) ?_
  refine ds_forG (items := (rng 0 ((1 : Int) + (((gx l_draws_here (0 : Int)) / (5 : Int)) % (3 : Int))).toNat)) (ea := PyData.int) (fun (s_1 : (List (T4 Int Int (Int × Int) Bool))) => [.v ((eL PyData.int) l_draws_here), .v (.int l_many), .o (oL (eT4 PyData.int PyData.int (eP PyData.int PyData.int) PyData.bool) s_1), .no, .no, .no, .no]) (l_l_wishes_1 l_draws_here l_many) l_wishes_here_1 (fun (i_1 : Nat) (s_1 : (List (T4 Int Int (Int × Int) Bool))) => ((s_1.length : Nat) : Int) = (i_1 : Int)) (fun (s_1 : (List (T4 Int Int (Int × Int) Bool))) => ((s_1.length : Nat) : Int) = (((rng 0 ((1 : Int) + (((gx l_draws_here (0 : Int)) / (5 : Int)) % (3 : Int))).toNat)).length : Int)) (fun (_ : Empty) _ => False) C (di_range1L (de_add de_int (de_mod (de_div (de_ixL (de_v 0 (pv 0)) de_int (by first | exact ⟨by omega, by omega⟩ | exact inR_mod (by omega) | (unfold inR; simp only [List.length_map, List.length_append, List.length_cons, List.length_nil, List.length_replicate, rng_len, sx_len]; omega))) de_int ⟨by decide, by decide⟩) de_int (by decide))) ⟨by omega, by omega⟩ rfl T.b_range) (tg_name (ln 3 sc_l_wishes.nd)) (by repeat (first | exact Le.nil | refine Le.same ?_ | refine Le.drop ?_)) (by subst e_l_wishes_here_1; rfl) ?_ (fun _ h => h) ?_ ?_
  · intro i_1 a_1 s_1 ha_1 hi_1
    refine ⟨[.v ((eL PyData.int) l_draws_here), .v (.int l_many), .o (oL (eT4 PyData.int PyData.int (eP PyData.int PyData.int) PyData.bool) s_1), .v (.int a_1), .no, .no, .no], rfl, ?_⟩
    have hrg := rng_get ha_1
    obtain ⟨l_cell_1, e_l_cell_1⟩ : ∃ z : Int, z = (m_l_mixed l_draws_here ((2 : Int) + a_1)) := ⟨_, rfl⟩
    refine ds_then (E' := [.v ((eL PyData.int) l_draws_here), .v (.int l_many), .o (oL (eT4 PyData.int PyData.int (eP PyData.int PyData.int) PyData.bool) s_1), .v (.int a_1), .v (.int l_cell_1), .no, .no]) (ds_set (x := (.int l_cell_1)) (ln 4 sc_l_wishes.nd) (deC (by subst e_l_cell_1; rfl) (de_call (f := "_law_mixed") (c_l_mixed.at hr) rfl (da_cons (de_v 0 (pv 0)) (da_cons (de_add de_int (de_v 3 (pv 3))) da_nil)) ⟨l_draws_here, ((2 : Int) + a_1), (by first | omega | assumption | (have h7 := rng_get ha_1; omega) | decide), rfl, rfl⟩))) ?_
    obtain ⟨p_1, e_p_1⟩ : ∃ z : Int, z = (bif (decide ((((gx l_draws_here (0 : Int)) / (15 : Int)) % (4 : Int)) = (1 : Int))) then (let l_cell_2 := (m_l_mixed l_draws_here (2 : Int)); l_cell_2) else l_cell_1) := ⟨_, rfl⟩
    try dsimp only at e_p_1
    refine ds_ifl (E' := [.v ((eL PyData.int) l_draws_here), .v (.int l_many), .o (oL (eT4 PyData.int PyData.int (eP PyData.int PyData.int) PyData.bool) s_1), .v (.int a_1), .v (.int p_1), .no, .no]) (dt_eqI (de_mod (de_div (de_ixL (de_v 0 (pv 0)) de_int (by first | exact ⟨by omega, by omega⟩ | exact inR_mod (by omega) | (unfold inR; simp only [List.length_map, List.length_append, List.length_cons, List.length_nil, List.length_replicate, rng_len, sx_len]; omega))) de_int ⟨by decide, by decide⟩) de_int (by decide)) de_int) (fun c_1 => ?_) (fun c_1 => ?_) ?_
    · have q_c_1 := c_1
      try simp only [eqD_t, eqD_f, decide_eq_true_eq, decide_eq_false_iff_not, Bool.not_eq_true', Bool.not_eq_false', Bool.and_eq_true, Bool.or_eq_true, Bool.and_eq_false_iff, Bool.or_eq_false_iff, Bool.not_true, Bool.not_false, Bool.not_not, Decidable.not_not] at q_c_1
      obtain ⟨l_cell_2, e_l_cell_2⟩ : ∃ z : Int, z = (m_l_mixed l_draws_here (2 : Int)) := ⟨_, rfl⟩
      refine ds_then (E' := [.v ((eL PyData.int) l_draws_here), .v (.int l_many), .o (oL (eT4 PyData.int PyData.int (eP PyData.int PyData.int) PyData.bool) s_1), .v (.int a_1), .v (.int l_cell_2), .no, .no]) (ds_set (x := (.int l_cell_2)) (ln 4 sc_l_wishes.nd) (deC (by subst e_l_cell_2; rfl) (de_call (f := "_law_mixed") (c_l_mixed.at hr) rfl (da_cons (de_v 0 (pv 0)) (da_cons de_int da_nil)) ⟨l_draws_here, (2 : Int), (by first | omega | assumption | (have h7 := rng_get ha_1; omega) | decide), rfl, rfl⟩))) ?_
      exact ds_nil (by subst e_p_1 e_l_cell_2; (try simp only [c_1, cond_true, cond_false, Bool.not_true, Bool.not_false, goM, goN]); (show Le _ _); repeat (first | exact Le.nil | refine Le.same ?_ | refine Le.drop ?_))
    · have q_c_1 := c_1
      try simp only [eqD_t, eqD_f, decide_eq_true_eq, decide_eq_false_iff_not, Bool.not_eq_true', Bool.not_eq_false', Bool.and_eq_true, Bool.or_eq_true, Bool.and_eq_false_iff, Bool.or_eq_false_iff, Bool.not_true, Bool.not_false, Bool.not_not, Decidable.not_not] at q_c_1
      exact ds_nil (by subst e_p_1; (try simp only [c_1, cond_true, cond_false, Bool.not_true, Bool.not_false, goM, goN]); (show Le _ _); repeat (first | exact Le.nil | refine Le.same ?_ | refine Le.drop ?_))
    obtain ⟨l_start_1, e_l_start_1⟩ : ∃ z : Int, z = (p_1 % l_many) := ⟨_, rfl⟩
    refine ds_then (E' := [.v ((eL PyData.int) l_draws_here), .v (.int l_many), .o (oL (eT4 PyData.int PyData.int (eP PyData.int PyData.int) PyData.bool) s_1), .v (.int a_1), .v (.int p_1), .v (.int l_start_1), .no]) (ds_set (x := (.int l_start_1)) (ln 5 sc_l_wishes.nd) (deC (by subst e_l_start_1; rfl) (de_mod (de_v 4 (pv 4)) (de_v 1 (pv 1)) (by first | omega | assumption | (have h7 := rng_get ha_1; omega) | decide)))) ?_
    obtain ⟨l_end_1, e_l_end_1⟩ : ∃ z : Int, z = (((l_start_1 + (1 : Int)) + ((p_1 / (6 : Int)) % (l_many - (1 : Int)))) % l_many) := ⟨_, rfl⟩
    refine ds_then (E' := [.v ((eL PyData.int) l_draws_here), .v (.int l_many), .o (oL (eT4 PyData.int PyData.int (eP PyData.int PyData.int) PyData.bool) s_1), .v (.int a_1), .v (.int p_1), .v (.int l_start_1), .v (.int l_end_1)]) (ds_set (x := (.int l_end_1)) (ln 6 sc_l_wishes.nd) (deC (by subst e_l_end_1; rfl) (de_mod (de_add (de_add (de_v 5 (pv 5)) de_int) (de_mod (de_div (de_v 4 (pv 4)) de_int ⟨by decide, by decide⟩) (de_sub (de_v 1 (pv 1)) de_int) (by first | omega | assumption | (have h7 := rng_get ha_1; omega) | decide))) (de_v 1 (pv 1)) (by first | omega | assumption | (have h7 := rng_get ha_1; omega) | decide)))) ?_
    obtain ⟨l_wishes_here_2, e_l_wishes_here_2⟩ : ∃ z : (List (T4 Int Int (Int × Int) Bool)), z = (s_1 ++ [(⟨l_start_1, l_end_1, (((1 : Int) + ((p_1 / (36 : Int)) % ((10 : Int) ^ 9))), (1 : Int)), (decide (((p_1 / (42 : Int)) % (3 : Int)) = (1 : Int)))⟩ : (T4 Int Int (Int × Int) Bool))]) := ⟨_, rfl⟩
    refine ds_then (E' := [.v ((eL PyData.int) l_draws_here), .v (.int l_many), .o (oL (eT4 PyData.int PyData.int (eP PyData.int PyData.int) PyData.bool) l_wishes_here_2), .v (.int a_1), .v (.int p_1), .v (.int l_start_1), .v (.int l_end_1)]) (ds_appendL (f := (eT4 PyData.int PyData.int (eP PyData.int PyData.int) PyData.bool)) (v := (⟨l_start_1, l_end_1, (((1 : Int) + ((p_1 / (36 : Int)) % ((10 : Int) ^ 9))), (1 : Int)), (decide (((p_1 / (42 : Int)) % (3 : Int)) = (1 : Int)))⟩ : (T4 Int Int (Int × Int) Bool))) (xs := s_1) (fun _ => pv 2) (de_tup (da_cons (de_v 5 (pv 5)) (da_cons (de_v 6 (pv 6)) (da_cons (de_tup (da_cons (de_add de_int (de_mod (de_div (de_v 4 (pv 4)) de_int ⟨by decide, by decide⟩) (de_powL 9 de_int de_int rfl (by decide) (by decide)) (by first | omega | assumption | (have h7 := rng_get ha_1; omega) | decide))) (da_cons de_int da_nil))) (da_cons (de_eqI (de_mod (de_div (de_v 4 (pv 4)) de_int ⟨by decide, by decide⟩) de_int (by decide)) de_int) da_nil))))) rfl (by rw [sizeLine_eq]; (have h8 := hi_1; have h7 := rng_get ha_1; omega)) (by subst e_l_wishes_here_2; rfl)) ?_
    exact ds_nil ⟨l_wishes_here_2, (by subst e_l_wishes_here_1 e_l_cell_1 e_p_1 e_l_start_1 e_l_end_1 e_l_wishes_here_2; simp only [l_l_wishes_1, cond_true, cond_false, Bool.not_true, Bool.not_false, goM, goN]; try rfl), (by repeat (first | exact Le.nil | refine Le.same ?_ | refine Le.drop ?_)), (by subst e_l_wishes_here_2; rw [List.length_append]; show (((s_1.length + 1 : Nat)) : Int) = _; omega)⟩
  · intro r o f_1 ho hr_
    exact r.elim
  intro s_2 f_1 hi_1
  exact ds_ret (db_v 2 (pv 2)) (.inl (by subst e_l_wishes_here_1; first | (simp only [m_l_wishes, f_1, cond_true, cond_false, Bool.not_true, Bool.not_false, goM, goN]; first | done | rfl) | (simp only [m_l_wishes]; rw [f_1]; first | done | rfl) | (simp only [m_l_wishes]; (try dsimp only at f_1); (try simp only [f_1, cond_true, cond_false, Bool.not_true, Bool.not_false, goM, goN]); first | done | rfl)))
abbrev Ws := T4 Int Int Fr Bool
/-! a count of ways, by the places they have come to -/
def phi (s : DSt) : Int × List (List Int) := ((s.1.length : Int), s.2.map (·.2))
def bwJ (ps : List (List Int)) : Nat := (ps.map fun p => 14 ^ (6 - p.length)).sum
def twJ (s : Int × List (List Int)) : Nat := s.1.toNat + 14 * bwJ s.2
theorem twJ_phi (s : DSt) : twJ (phi s) = tw s := by
  show (s.1.length : Int).toNat + 14 * ((s.2.map (·.2)).map fun p : List Int => 14 ^ (6 - p.length)).sum = _
  rw [List.map_map]
  rfl
def BgJ (z : Int × List (List Int)) : Prop := ∃ s : DSt, BgI s ∧ z = phi s
def BiJ (seen : List Int) (i : Nat) (z : Int × List (List Int)) : Prop := ∃ (p : Pth) (s0 s : DSt), p.2 = seen ∧ BiI s0 p i s ∧ z = phi s
theorem bgJ_0 {s : Int} (h : 0 ≤ s ∧ s < 6) : BgJ ((0 : Int), [[s]]) := ⟨([], [([], [s])]), bgI_0 h, rfl⟩
theorem BiJ.pp {seen : List Int} {i : Nat} {z : Int × List (List Int)} (h : BiJ seen i z) : 1 ≤ seen.length ∧ seen.length ≤ 6 := by
  obtain ⟨p, s0, s, rfl, h, _⟩ := h
  exact ⟨h.pp.pos, h.pp.le⟩
theorem BiJ.l1 {seen : List Int} {i : Nat} {z : Int × List (List Int)} (h : BiJ seen i z) (hi : i ≤ 13) : z.2.length ≤ 7529536 := by
  obtain ⟨p, s0, s, rfl, h, rfl⟩ := h
  show (s.2.map (·.2)).length ≤ _
  rw [List.length_map]
  exact (h.l1 hi).2
theorem biJ_0 {n : Int} {front : List (List Int)} {seen : List Int} (h : BgJ (n, front ++ [seen])) : BiJ seen 0 (n, front) := by
  obtain ⟨⟨f, b⟩, h, e⟩ := h
  have e1 : n = (f.length : Int) := congrArg Prod.fst e
  have e2 : front ++ [seen] = b.map (·.2) := congrArg Prod.snd e
  have hne : b ≠ [] := fun z => by rw [z] at e2; simp at e2
  have hs := snoc_parts hne
  generalize b.getLastD default = p at *
  generalize b.dropLast = fr at *
  subst hs
  rw [List.map_append] at e2
  have e3 := List.append_inj' e2 rfl
  have e4 : seen = p.2 := by have := e3.2; simpa using this
  exact ⟨p, (f, fr), (f, fr), e4.symm, biI_0 (s := (f, fr)) h, by rw [e1, e3.1]; rfl⟩
def l_l_listed_2 (k_l_wish : (T4 Int Int (Int × Int) Bool)) (k_l_seen : (List Int)) (s_2 : Int × (List (List Int))) (a_3 : (T5 Int Int (Int × Int) (Int × Int) Bool)) : Go (Int × (List (List Int))) Empty := (let p_1 := (bif ((decide (a_3.a = (gx k_l_seen (-(1 : Int))))) && (k_l_wish.d || (!a_3.e))) then (let p_2 := (bif (decide (a_3.b = k_l_wish.b)) then (let l_found_1 := (s_2.1 + (1 : Int)); (l_found_1, s_2.2)) else (let p_3 := (bif (!decide (a_3.b ∈ k_l_seen)) then (let l_begun_3 := (s_2.2 ++ [(k_l_seen ++ ([a_3.b] : (List Int)))]); l_begun_3) else s_2.2); (s_2.1, p_3))); (p_2.1, p_2.2)) else (s_2.1, s_2.2)); (.nx (p_1.1, p_1.2)))
def l_l_listed_1 (k_l_roads : (List (T5 Int Int (Int × Int) (Int × Int) Bool))) (k_l_wish : (T4 Int Int (Int × Int) Bool)) (s_1 : Int × (List (List Int))) : Go (Int × (List (List Int))) Empty := (let l_begun_2 := s_1.2.dropLast; let a_2 := s_1.2.getLastD default; (goN (forG (l_l_listed_2 k_l_wish a_2) k_l_roads (s_1.1, l_begun_2)) (fun s_3 => (.nx (s_3.1, s_3.2)))))
def l_l_listed_1_c (k_l_roads : (List (T5 Int Int (Int × Int) (Int × Int) Bool))) (k_l_wish : (T4 Int Int (Int × Int) Bool)) (s_1 : Int × (List (List Int))) : Bool := (!eqD s_1.2 ([] : (List (List Int))))
def m_l_listed (l_roads : (List (T5 Int Int (Int × Int) (Int × Int) Bool))) (l_wish : (T4 Int Int (Int × Int) Bool)) : Int := (let l_begun_1 := ([([l_wish.a] : (List Int))] : (List (List Int))); (goN (whileG (l_l_listed_1_c l_roads l_wish) (l_l_listed_1 l_roads l_wish) ((fun (s_1 : Int × (List (List Int))) => twJ (s_1.1, s_1.2)) ((0 : Int), l_begun_1) + 1) ((0 : Int), l_begun_1)) (fun s_4 => s_4.1)))
theorem lj_one (w : Ws) (p : Pth) (s : DSt) (k : Int) (a : Rd) : l_l_listed_2 w p.2 (phi s) a = .nx (phi (if (w.d || !a.e) = true then stp w.b p s (k, a.a, a.b) else s)) := by
  unfold l_l_listed_2 stp
  simp only
  by_cases c0 : (w.d || !a.e) = true
  · rw [if_pos c0, c0, Bool.and_true]
    by_cases c1 : a.a = gx p.2 (-1)
    · rw [decide_eq_true c1, if_pos c1]
      by_cases c2 : a.b = w.b
      · rw [decide_eq_true c2, if_pos c2]
        show Go.nx (((s.1.length : Nat) : Int) + 1, s.2.map (·.2)) = .nx ((((s.1 ++ [p.1 ++ [k]]).length : Nat) : Int), s.2.map (·.2))
        rw [List.length_append]
        rfl
      · rw [decide_eq_false c2, if_neg c2]
        by_cases c3 : a.b ∈ p.2
        · rw [decide_eq_true c3, if_pos c3]; rfl
        · rw [decide_eq_false c3, if_neg c3]
          show Go.nx (((s.1.length : Nat) : Int), s.2.map (·.2) ++ [p.2 ++ [a.b]]) = .nx (((s.1.length : Nat) : Int), (s.2 ++ [(p.1 ++ [k], p.2 ++ [a.b])]).map (·.2))
          rw [List.map_append]
          rfl
    · rw [decide_eq_false c1, if_neg c1]; rfl
  · rw [if_neg c0, Bool.eq_false_iff.mpr c0, Bool.and_false]; rfl
theorem lj_fold (w : Ws) (p : Pth) : ∀ (L : List (Int × Rd)) (s : DSt), forG (l_l_listed_2 w p.2) (L.map (·.2)) (phi s) = .nx (phi (L.foldl (fun s a => if (w.d || !a.2.e) = true then stp w.b p s (a.1, a.2.a, a.2.b) else s) s))
  | [], _ => rfl
  | a :: L, s => by
    rw [List.map_cons, forG, lj_one w p s a.1 a.2]
    exact lj_fold w p L _
theorem enumL_snd {α : Type} (xs : List α) : (enumL xs).map (·.2) = xs := by
  unfold enumL
  exact List.map_snd_zip (by rw [rng_len]; exact Nat.le_refl _)
theorem last_snd (b : List Pth) : (b.map (·.2)).getLastD default = (b.getLastD default).2 := by
  rw [List.getLastD_eq_getLast?, List.getLastD_eq_getLast?, List.getLast?_map]
  cases b.getLast? <;> rfl
theorem lj_turn (rs : List Rd) (w : Ws) (s : DSt) : l_l_listed_1 rs w (phi s) = .nx (phi ((usb rs w.d).foldl (stp w.b (s.2.getLastD default)) (s.1, s.2.dropLast))) := by
  have e1 : (phi s).2.dropLast = s.2.dropLast.map (·.2) := List.map_dropLast.symm
  have e2 : (phi s).2.getLastD default = (s.2.getLastD default).2 := last_snd s.2
  unfold l_l_listed_1
  simp only
  rw [e1, e2]
  have e3 := lj_fold w (s.2.getLastD default) (enumL rs) (s.1, s.2.dropLast)
  rw [enumL_snd, usb_foldA (stp w.b (s.2.getLastD default)) rs w.d] at e3
  rw [goN_nx (show forG (l_l_listed_2 w (s.2.getLastD default).2) rs ((phi s).1, s.2.dropLast.map (·.2)) = _ from e3)]
theorem listed_turn {rs : List Rd} {w : Ws} {z : Int × List (List Int)} (h1 : rs.length ≤ 13) (h2 : ∀ r ∈ rs, (0 ≤ r.a ∧ r.a < 6) ∧ (0 ≤ r.b ∧ r.b < 6)) (hs : BgJ z) (hc : ¬ z.2 = []) : ∃ z', l_l_listed_1 rs w z = .nx z' ∧ BgJ z' ∧ twJ z' < twJ z := by
  obtain ⟨s, hb, rfl⟩ := hs
  obtain ⟨s', k1, k2, k3⟩ := dfs_turn (e := w.b) (usb_us (lane := w.d) h1 fun r hr => (h2 r hr).2) hb (fun q => hc (by show s.2.map (·.2) = []; rw [q]; rfl))
  unfold dfsT at k1
  cases k1
  exact ⟨_, lj_turn rs w s, ⟨_, k2, rfl⟩, by rw [twJ_phi, twJ_phi]; exact k3⟩
theorem listed_step {w : Ws} {seen : List Int} {z : Int × List (List Int)} {a : Rd} {i : Nat} (hr : 0 ≤ a.b ∧ a.b < 6) (h : BiJ seen (((i : Nat) : Int)).toNat z) : ∃ z', l_l_listed_2 w seen z a = .nx z' ∧ BiJ seen ((((i + 1 : Nat)) : Int)).toNat z' := by
  obtain ⟨p, s0, s, rfl, h, rfl⟩ := h
  refine ⟨_, lj_one w p s 0 a, p, s0, _, rfl, ?_, rfl⟩
  split
  · exact h.step (q := (0, a.a, a.b)) hr
  · have e1 : ((((i + 1 : Nat)) : Int)).toNat = ((i : Nat) : Int).toNat + 1 := by omega
    rw [e1]
    exact ⟨h.each, h.pp, h.tot, Nat.le_trans h.w (Nat.add_le_add_left (Nat.mul_le_mul_right _ (Nat.le_succ _)) _)⟩
def r_l_listed (xs : List PyData) (r : Res) : Prop := ∃ (l_roads : (List (T5 Int Int (Int × Int) (Int × Int) Bool))) (l_wish : (T4 Int Int (Int × Int) Bool)), (l_roads.length ≤ 13) ∧ (∀ r ∈ l_roads, (0 ≤ r.a ∧ r.a < 6) ∧ (0 ≤ r.b ∧ r.b < 6)) ∧ (0 ≤ l_wish.a ∧ l_wish.a < 6) ∧ xs = [((eL (eT5 PyData.int PyData.int (eP PyData.int PyData.int) (eP PyData.int PyData.int) PyData.bool)) l_roads), ((eT4 PyData.int PyData.int (eP PyData.int PyData.int) PyData.bool) l_wish)] ∧ r = .v (.int (m_l_listed l_roads l_wish))
abbrev N_l_listed : List Str := ["_law_roads", "_law_wish", "_law_found", "_law_begun", "_law_seen", "_law_road"]
theorem sc_l_listed : FnScope N_l_listed ["_law_roads", "_law_wish"] (defScope s_l_listed) := ⟨rfl, rfl, rfl, by decide +kernel, rfl, by decide +kernel, by decide +kernel⟩
theorem ok_l_listed (F : Def K mg "_law_listed" s_l_listed ["_law_roads", "_law_wish"]) (T : Txt K mg A)  : Cal P w K mg base "_law_listed" 2 r_l_listed 1 := by
  refine cal_ok F sc_l_listed rfl fun fa cdv AA outer ss HH EE X hX C hr xs r hl hR => ?_
  obtain ⟨l_roads, l_wish, pre_0, pre_1, pre_2, rfl, rfl⟩ := hR
  subst hX
  show DSs _ _ _ [.v ((eL (eT5 PyData.int PyData.int (eP PyData.int PyData.int) (eP PyData.int PyData.int) PyData.bool)) l_roads), .v ((eT4 PyData.int PyData.int (eP PyData.int PyData.int) PyData.bool) l_wish), .no, .no, .no, .no] _
  have hrl := pre_0
  refine ds_then (E' := [.v ((eL (eT5 PyData.int PyData.int (eP PyData.int PyData.int) (eP PyData.int PyData.int) PyData.bool)) l_roads), .v ((eT4 PyData.int PyData.int (eP PyData.int PyData.int) PyData.bool) l_wish), .v (.int (0 : Int)), .no, .no, .no]) (ds_set (x := (.int (0 : Int))) (ln 2 sc_l_listed.nd) de_int) ?_
  obtain ⟨l_begun_1, e_l_begun_1⟩ : ∃ z : (List (List Int)), z = ([([l_wish.a] : (List Int))] : (List (List Int))) := ⟨_, rfl⟩
  refine ds_then (E' := [.v ((eL (eT5 PyData.int PyData.int (eP PyData.int PyData.int) (eP PyData.int PyData.int) PyData.bool)) l_roads), .v ((eT4 PyData.int PyData.int (eP PyData.int PyData.int) PyData.bool) l_wish), .v (.int (0 : Int)), .o (oL (eL PyData.int) l_begun_1), .no, .no]) (ds_setN (t := oL (eL PyData.int) l_begun_1) (ln 3 sc_l_listed.nd) (dnC (by subst e_l_begun_1; rfl) (dn_lst (da_cons (DN.toL (f := PyData.int) (xs := ([l_wish.a] : (List Int))) (dn_lst (da_cons (de_it (de_v 1 (pv 1)) de_int) da_nil))) da_nil)))) ?_
  refine ds_whileG (fun (s_1 : Int × (List (List Int))) => [.v ((eL (eT5 PyData.int PyData.int (eP PyData.int PyData.int) (eP PyData.int PyData.int) PyData.bool)) l_roads), .v ((eT4 PyData.int PyData.int (eP PyData.int PyData.int) PyData.bool) l_wish), .v (.int s_1.1), .o (oL (eL PyData.int) s_1.2), .no, .no]) (l_l_listed_1_c l_roads l_wish) (l_l_listed_1 l_roads l_wish) (fun (s_1 : Int × (List (List Int))) => twJ (s_1.1, s_1.2)) ((0 : Int), l_begun_1) (fun (s_1 : Int × (List (List Int))) => BgJ (s_1.1, s_1.2)) (fun (s_1 : Int × (List (List Int))) => BgJ (s_1.1, s_1.2)) (fun (_ : Empty) _ => False) C (by repeat (first | exact Le.nil | refine Le.same ?_ | refine Le.drop ?_)) (by subst e_l_begun_1; exact bgJ_0 pre_2) ?_ ?_ (fun _ h _ => h) ?_ ?_
  · intro s_1 hi_1
    exact (dt_borrowS 3 (dat_L (eL PyData.int)) rfl (dt_neU (x := s_1.2) (y := ([] : (List (List Int)))) hr.units (eqE_L (eqE_L eqE_int)) (de_v 3 (pv 3)) (DN.toL (f := (eL PyData.int)) (xs := ([] : (List (List Int)))) (dn_lst da_nil))))
  · intro s_1 hi_1 c_1
    have q_c_1 : (!eqD s_1.2 ([] : (List (List Int)))) = true := c_1
    try simp only [eqD_t, eqD_f, decide_eq_true_eq, decide_eq_false_iff_not, Bool.not_eq_true', Bool.not_eq_false', Bool.and_eq_true, Bool.or_eq_true, Bool.and_eq_false_iff, Bool.or_eq_false_iff, Bool.not_true, Bool.not_false, Bool.not_not, Decidable.not_not] at q_c_1
    obtain ⟨l_begun_2, a_2, e_l_begun_2⟩ : ∃ (u : (List (List Int))) (z : (List Int)), s_1.2 = u ++ [z] := (by exact snoc_of (by assumption))
    rw [e_l_begun_2]
    refine ds_then (E' := [.v ((eL (eT5 PyData.int PyData.int (eP PyData.int PyData.int) (eP PyData.int PyData.int) PyData.bool)) l_roads), .v ((eT4 PyData.int PyData.int (eP PyData.int PyData.int) PyData.bool) l_wish), .v (.int s_1.1), .o (oL (eL PyData.int) l_begun_2), .v ((eL PyData.int) a_2), .no]) (ds_pop (f := (eL PyData.int)) (xs := l_begun_2) (v := a_2) (fun _ => pv 3) (tg_name (ln 4 sc_l_listed.nd)) rfl) ?_
    refine ds_forG (items := l_roads) (ea := (eT5 PyData.int PyData.int (eP PyData.int PyData.int) (eP PyData.int PyData.int) PyData.bool)) (fun (s_2 : Int × (List (List Int))) => [.v ((eL (eT5 PyData.int PyData.int (eP PyData.int PyData.int) (eP PyData.int PyData.int) PyData.bool)) l_roads), .v ((eT4 PyData.int PyData.int (eP PyData.int PyData.int) PyData.bool) l_wish), .v (.int s_2.1), .o (oL (eL PyData.int) s_2.2), .v ((eL PyData.int) a_2), .no]) (l_l_listed_2 l_wish a_2) (s_1.1, l_begun_2) (fun (i_2 : Nat) (s_2 : Int × (List (List Int))) => BiJ a_2 (i_2 : Int).toNat (s_2.1, s_2.2)) (fun (s_2 : Int × (List (List Int))) => BiJ a_2 ((l_roads).length : Int).toNat (s_2.1, s_2.2)) (fun (_ : Empty) _ => False) C (di_list (de_v 0 (pv 0))) (tg_name (ln 5 sc_l_listed.nd)) (by repeat (first | exact Le.nil | refine Le.same ?_ | refine Le.drop ?_)) (by exact biJ_0 (by rw [← e_l_begun_2]; exact hi_1)) ?_ (fun _ h => h) ?_ ?_
    · intro i_2 a_3 s_2 ha_2 hi_2
      refine ⟨[.v ((eL (eT5 PyData.int PyData.int (eP PyData.int PyData.int) (eP PyData.int PyData.int) PyData.bool)) l_roads), .v ((eT4 PyData.int PyData.int (eP PyData.int PyData.int) PyData.bool) l_wish), .v (.int s_2.1), .o (oL (eL PyData.int) s_2.2), .v ((eL PyData.int) a_2), .v ((eT5 PyData.int PyData.int (eP PyData.int PyData.int) (eP PyData.int PyData.int) PyData.bool) a_3)], rfl, ?_⟩
      have hpz := hi_2
      have hr := pre_1 _ (List.mem_of_getElem? ha_2)
      have hli := get_lt ha_2
      obtain ⟨p_1, e_p_1⟩ : ∃ z : Int × (List (List Int)), z = (bif ((decide (a_3.a = (gx a_2 (-(1 : Int))))) && (l_wish.d || (!a_3.e))) then (let p_2 := (bif (decide (a_3.b = l_wish.b)) then (let l_found_1 := (s_2.1 + (1 : Int)); (l_found_1, s_2.2)) else (let p_3 := (bif (!decide (a_3.b ∈ a_2)) then (let l_begun_3 := (s_2.2 ++ [(a_2 ++ ([a_3.b] : (List Int)))]); l_begun_3) else s_2.2); (s_2.1, p_3))); (p_2.1, p_2.2)) else (s_2.1, s_2.2)) := ⟨_, rfl⟩
      try dsimp only at e_p_1
      refine ds_ifl (E' := [.v ((eL (eT5 PyData.int PyData.int (eP PyData.int PyData.int) (eP PyData.int PyData.int) PyData.bool)) l_roads), .v ((eT4 PyData.int PyData.int (eP PyData.int PyData.int) PyData.bool) l_wish), .v (.int p_1.1), .o (oL (eL PyData.int) p_1.2), .v ((eL PyData.int) a_2), .v ((eT5 PyData.int PyData.int (eP PyData.int PyData.int) (eP PyData.int PyData.int) PyData.bool) a_3)]) (DW.toT (dw_and (dt_eqI (de_it (de_v 5 (pv 5)) de_int) (de_ixL (de_v 4 (pv 4)) (de_neg de_int) (by first | exact ⟨by have := hpz.pp; omega, by have := hpz.pp; omega⟩ | (first | exact ⟨by omega, by omega⟩ | exact inR_mod (by omega) | (unfold inR; simp only [List.length_map, List.length_append, List.length_cons, List.length_nil, List.length_replicate, rng_len, sx_len]; omega))))) (fun _ => (dw_and1 (DW.toT (dw_or (dt_val (de_it (de_v 1 (pv 1)) de_int)) (fun _ => (dw_or1 (dt_not (dt_val (de_it (de_v 5 (pv 5)) de_int))))))))))) (fun c_2 => ?_) (fun c_2 => ?_) ?_
      · have q_c_2 := c_2
        try simp only [eqD_t, eqD_f, decide_eq_true_eq, decide_eq_false_iff_not, Bool.not_eq_true', Bool.not_eq_false', Bool.and_eq_true, Bool.or_eq_true, Bool.and_eq_false_iff, Bool.or_eq_false_iff, Bool.not_true, Bool.not_false, Bool.not_not, Decidable.not_not] at q_c_2
        obtain ⟨p_2, e_p_2⟩ : ∃ z : Int × (List (List Int)), z = (bif (decide (a_3.b = l_wish.b)) then (let l_found_1 := (s_2.1 + (1 : Int)); (l_found_1, s_2.2)) else (let p_3 := (bif (!decide (a_3.b ∈ a_2)) then (let l_begun_3 := (s_2.2 ++ [(a_2 ++ ([a_3.b] : (List Int)))]); l_begun_3) else s_2.2); (s_2.1, p_3))) := ⟨_, rfl⟩
        try dsimp only at e_p_2
        refine ds_ifl (E' := [.v ((eL (eT5 PyData.int PyData.int (eP PyData.int PyData.int) (eP PyData.int PyData.int) PyData.bool)) l_roads), .v ((eT4 PyData.int PyData.int (eP PyData.int PyData.int) PyData.bool) l_wish), .v (.int p_2.1), .o (oL (eL PyData.int) p_2.2), .v ((eL PyData.int) a_2), .v ((eT5 PyData.int PyData.int (eP PyData.int PyData.int) (eP PyData.int PyData.int) PyData.bool) a_3)]) (dt_eqI (de_it (de_v 5 (pv 5)) de_int) (de_it (de_v 1 (pv 1)) de_int)) (fun c_3 => ?_) (fun c_3 => ?_) ?_
        · have q_c_3 := c_3
          try simp only [eqD_t, eqD_f, decide_eq_true_eq, decide_eq_false_iff_not, Bool.not_eq_true', Bool.not_eq_false', Bool.and_eq_true, Bool.or_eq_true, Bool.and_eq_false_iff, Bool.or_eq_false_iff, Bool.not_true, Bool.not_false, Bool.not_not, Decidable.not_not] at q_c_3
          obtain ⟨l_found_1, e_l_found_1⟩ : ∃ z : Int, z = (s_2.1 + (1 : Int)) := ⟨_, rfl⟩
          refine ds_then (E' := [.v ((eL (eT5 PyData.int PyData.int (eP PyData.int PyData.int) (eP PyData.int PyData.int) PyData.bool)) l_roads), .v ((eT4 PyData.int PyData.int (eP PyData.int PyData.int) PyData.bool) l_wish), .v (.int l_found_1), .o (oL (eL PyData.int) s_2.2), .v ((eL PyData.int) a_2), .v ((eT5 PyData.int PyData.int (eP PyData.int PyData.int) (eP PyData.int PyData.int) PyData.bool) a_3)]) (ds_aug ip_add (ln 2 sc_l_listed.nd) de_int rfl (by subst e_l_found_1; rfl)) ?_
          exact ds_nil (by subst e_p_2 e_l_found_1; (try simp only [e_l_begun_2, c_2, c_3, cond_true, cond_false, Bool.not_true, Bool.not_false, goM, goN]); (show Le _ _); repeat (first | exact Le.nil | refine Le.same ?_ | refine Le.drop ?_))
        · have q_c_3 := c_3
          try simp only [eqD_t, eqD_f, decide_eq_true_eq, decide_eq_false_iff_not, Bool.not_eq_true', Bool.not_eq_false', Bool.and_eq_true, Bool.or_eq_true, Bool.and_eq_false_iff, Bool.or_eq_false_iff, Bool.not_true, Bool.not_false, Bool.not_not, Decidable.not_not] at q_c_3
          obtain ⟨p_3, e_p_3⟩ : ∃ z : (List (List Int)), z = (bif (!decide (a_3.b ∈ a_2)) then (let l_begun_3 := (s_2.2 ++ [(a_2 ++ ([a_3.b] : (List Int)))]); l_begun_3) else s_2.2) := ⟨_, rfl⟩
          try dsimp only at e_p_3
          refine ds_ifl (E' := [.v ((eL (eT5 PyData.int PyData.int (eP PyData.int PyData.int) (eP PyData.int PyData.int) PyData.bool)) l_roads), .v ((eT4 PyData.int PyData.int (eP PyData.int PyData.int) PyData.bool) l_wish), .v (.int s_2.1), .o (oL (eL PyData.int) p_3), .v ((eL PyData.int) a_2), .v ((eT5 PyData.int PyData.int (eP PyData.int PyData.int) (eP PyData.int PyData.int) PyData.bool) a_3)]) (dt_niI (de_it (de_v 5 (pv 5)) de_int) (de_v 4 (pv 4))) (fun c_4 => ?_) (fun c_4 => ?_) ?_
          · have q_c_4 := c_4
            try simp only [eqD_t, eqD_f, decide_eq_true_eq, decide_eq_false_iff_not, Bool.not_eq_true', Bool.not_eq_false', Bool.and_eq_true, Bool.or_eq_true, Bool.and_eq_false_iff, Bool.or_eq_false_iff, Bool.not_true, Bool.not_false, Bool.not_not, Decidable.not_not] at q_c_4
            obtain ⟨l_begun_3, e_l_begun_3⟩ : ∃ z : (List (List Int)), z = (s_2.2 ++ [(a_2 ++ ([a_3.b] : (List Int)))]) := ⟨_, rfl⟩
            refine ds_then (E' := [.v ((eL (eT5 PyData.int PyData.int (eP PyData.int PyData.int) (eP PyData.int PyData.int) PyData.bool)) l_roads), .v ((eT4 PyData.int PyData.int (eP PyData.int PyData.int) PyData.bool) l_wish), .v (.int s_2.1), .o (oL (eL PyData.int) l_begun_3), .v ((eL PyData.int) a_2), .v ((eT5 PyData.int PyData.int (eP PyData.int PyData.int) (eP PyData.int PyData.int) PyData.bool) a_3)]) (ds_appendL (f := (eL PyData.int)) (v := (a_2 ++ ([a_3.b] : (List Int)))) (xs := s_2.2) (fun _ => pv 3) (DN.toL (f := PyData.int) (xs := (a_2 ++ ([a_3.b] : (List Int)))) (dn_catL (de_v 4 (pv 4)) (DN.toL (f := PyData.int) (xs := ([a_3.b] : (List Int))) (dn_lst (da_cons (de_it (de_v 5 (pv 5)) de_int) da_nil))) (by rw [sizeLine_eq]; first | omega | (have h5 := hpz.pp; simp only [List.length_cons, List.length_nil]; omega) | (simp only [List.length_append, List.length_cons, List.length_nil, List.length_map, List.length_replicate]; omega)))) rfl (by rw [sizeLine_eq]; (exact Nat.lt_of_le_of_lt (hpz.l1 (by omega)) (by decide))) (by subst e_l_begun_3; rfl)) ?_
            exact ds_nil (by subst e_p_3 e_l_begun_3; (try simp only [e_l_begun_2, c_2, c_3, c_4, cond_true, cond_false, Bool.not_true, Bool.not_false, goM, goN]); (show Le _ _); repeat (first | exact Le.nil | refine Le.same ?_ | refine Le.drop ?_))
          · have q_c_4 := c_4
            try simp only [eqD_t, eqD_f, decide_eq_true_eq, decide_eq_false_iff_not, Bool.not_eq_true', Bool.not_eq_false', Bool.and_eq_true, Bool.or_eq_true, Bool.and_eq_false_iff, Bool.or_eq_false_iff, Bool.not_true, Bool.not_false, Bool.not_not, Decidable.not_not] at q_c_4
            exact ds_nil (by subst e_p_3; (try simp only [e_l_begun_2, c_2, c_3, c_4, cond_true, cond_false, Bool.not_true, Bool.not_false, goM, goN]); (show Le _ _); repeat (first | exact Le.nil | refine Le.same ?_ | refine Le.drop ?_))
          exact ds_nil (by subst e_p_2 e_p_3; (try simp only [e_l_begun_2, c_2, c_3, cond_true, cond_false, Bool.not_true, Bool.not_false, goM, goN]); (show Le _ _); repeat (first | exact Le.nil | refine Le.same ?_ | refine Le.drop ?_))
        exact ds_nil (by subst e_p_1 e_p_2; (try simp only [e_l_begun_2, c_2, cond_true, cond_false, Bool.not_true, Bool.not_false, goM, goN]); (show Le _ _); repeat (first | exact Le.nil | refine Le.same ?_ | refine Le.drop ?_))
      · have q_c_2 := c_2
        try simp only [eqD_t, eqD_f, decide_eq_true_eq, decide_eq_false_iff_not, Bool.not_eq_true', Bool.not_eq_false', Bool.and_eq_true, Bool.or_eq_true, Bool.and_eq_false_iff, Bool.or_eq_false_iff, Bool.not_true, Bool.not_false, Bool.not_not, Decidable.not_not] at q_c_2
        exact ds_nil (by subst e_p_1; (try simp only [e_l_begun_2, c_2, cond_true, cond_false, Bool.not_true, Bool.not_false, goM, goN]); (show Le _ _); repeat (first | exact Le.nil | refine Le.same ?_ | refine Le.drop ?_))
      exact ds_nil ⟨(p_1.1, p_1.2), (by subst e_l_begun_1 e_p_1; first | (simp only [l_l_listed_2, e_l_begun_2, cond_true, cond_false, Bool.not_true, Bool.not_false, goM, goN, List.dropLast_concat, List.getLastD_concat]; first | done | rfl) | (simp only [l_l_listed_2]; rw [e_l_begun_2]; first | done | rfl) | (simp only [l_l_listed_2]; (try dsimp only at e_l_begun_2); (try simp only [e_l_begun_2, List.dropLast_concat, List.getLastD_concat, cond_true, cond_false, Bool.not_true, Bool.not_false, goM, goN]); first | done | rfl)), (by repeat (first | exact Le.nil | refine Le.same ?_ | refine Le.drop ?_)), (by have hz := go_inv (v := (p_1.1, p_1.2)) (listed_step (w := l_wish) (a := a_3) hr.2 hi_2) (by subst e_l_begun_1 e_p_1; first | (simp only [l_l_listed_2, e_l_begun_2, cond_true, cond_false, Bool.not_true, Bool.not_false, goM, goN, List.dropLast_concat, List.getLastD_concat]; first | done | rfl) | (simp only [l_l_listed_2]; rw [e_l_begun_2]; first | done | rfl) | (simp only [l_l_listed_2]; (try dsimp only at e_l_begun_2); (try simp only [e_l_begun_2, List.dropLast_concat, List.getLastD_concat, cond_true, cond_false, Bool.not_true, Bool.not_false, goM, goN]); first | done | rfl)); exact hz)⟩
    · intro r o f_1 ho hr_
      exact r.elim
    intro s_3 f_1 hi_2
    exact ds_nil ⟨(s_3.1, s_3.2), (by subst e_l_begun_1; first | (simp only [l_l_listed_1, e_l_begun_2, f_1, cond_true, cond_false, Bool.not_true, Bool.not_false, goM, goN, List.dropLast_concat, List.getLastD_concat]; first | done | rfl) | (simp only [l_l_listed_1]; rw [e_l_begun_2, f_1]; first | done | rfl) | (simp only [l_l_listed_1]; (try dsimp only at e_l_begun_2); (try dsimp only at f_1); (try simp only [e_l_begun_2, List.dropLast_concat, List.getLastD_concat, cond_true, cond_false, Bool.not_true, Bool.not_false, goM, goN]); (try simp only [f_1, List.dropLast_concat, List.getLastD_concat, cond_true, cond_false, Bool.not_true, Bool.not_false, goM, goN]); first | done | rfl)), (by repeat (first | exact Le.nil | refine Le.same ?_ | refine Le.drop ?_)), (by have hz := go_inv (v := (s_3.1, s_3.2)) (listed_turn (rs := l_roads) (w := l_wish) pre_0 pre_1 hi_1 (by assumption)) (by subst e_l_begun_1; first | (simp only [l_l_listed_1, e_l_begun_2, f_1, cond_true, cond_false, Bool.not_true, Bool.not_false, goM, goN, List.dropLast_concat, List.getLastD_concat]; first | done | rfl) | (simp only [l_l_listed_1]; rw [e_l_begun_2, f_1]; first | done | rfl) | (simp only [l_l_listed_1]; (try dsimp only at e_l_begun_2); (try dsimp only at f_1); (try simp only [e_l_begun_2, List.dropLast_concat, List.getLastD_concat, cond_true, cond_false, Bool.not_true, Bool.not_false, goM, goN]); (try simp only [f_1, List.dropLast_concat, List.getLastD_concat, cond_true, cond_false, Bool.not_true, Bool.not_false, goM, goN]); first | done | rfl)); exact ⟨hz.1, by rw [← e_l_begun_2]; exact hz.2⟩)⟩
  · intro r o f_2 ho hr_
    exact r.elim
  intro s_4 f_2 hi_1
  exact ds_retD (de_v 2 (pv 2)) (.inl (by subst e_l_begun_1; first | (simp only [m_l_listed, f_2, cond_true, cond_false, Bool.not_true, Bool.not_false, goM, goN]; first | done | rfl) | (simp only [m_l_listed]; rw [f_2]; first | done | rfl) | (simp only [m_l_listed]; (try dsimp only at f_2); (try simp only [f_2, cond_true, cond_false, Bool.not_true, Bool.not_false, goM, goN]); first | done | rfl)))
theorem wj (rs : List Rd) (w : Ws) : ∀ (n : Nat) (s s' : DSt), whileG dfsC (dfsT w.b (usb rs w.d)) n s = .nx s' → whileG (l_l_listed_1_c rs w) (l_l_listed_1 rs w) n (phi s) = .nx (phi s')
  | 0, s, s', h => by cases h; rfl
  | n + 1, s, s', h => by
    have ec : l_l_listed_1_c rs w (phi s) = dfsC s := by
      unfold l_l_listed_1_c dfsC eqD
      congr 1
      rw [decide_eq_decide]
      exact List.map_eq_nil_iff
    rw [whileG] at h ⊢
    rw [ec]
    cases q : dfsC s with
    | false => rw [q] at h; cases h; rfl
    | true =>
      rw [q] at h
      rw [lj_turn]
      exact wj rs w n _ _ h
theorem listed_is {rs : List Rd} {w : Ws} (h1 : rs.length ≤ 13) (h2 : ∀ r ∈ rs, (0 ≤ r.a ∧ r.a < 6) ∧ (0 ≤ r.b ∧ r.b < 6)) (hs : 0 ≤ w.a ∧ w.a < 6) : m_l_listed rs w = ((dfs (usb rs w.d) w.a w.b).length : Int) := by
  obtain ⟨s', k1, _, _⟩ := whileG_inv (c := dfsC) (f := dfsT w.b (usb rs w.d)) BgI tw (fun s hi hc => dfs_turn (e := w.b) (usb_us (lane := w.d) h1 fun r hr => (h2 r hr).2) hi (by unfold dfsC at hc; simpa using hc)) (tw ([], [([], [w.a])]) + 1) ([], [([], [w.a])]) (bgI_0 hs) (Nat.lt_succ_self _)
  have k2 := wj rs w _ _ _ k1
  rw [← twJ_phi] at k2
  unfold m_l_listed dfs
  rw [goN_nx k1, sortL_len]
  show goN (whileG (l_l_listed_1_c rs w) (l_l_listed_1 rs w) (twJ (phi ([], [([], [w.a])])) + 1) (phi ([], [([], [w.a])]))) (fun s => s.1) = _
  rw [goN_nx k2]
  rfl
def l_l_reached_1 (k_l_reached_here : (List Int)) (s_1 : Unit) (a_1 : (Int × Int)) : Go (Unit) Bool := (bif ((!(m_l_whole (.int a_1.2))) || ((decide ((0 : Int) < a_1.1)) && (decide (a_1.2 ≤ (gx k_l_reached_here (a_1.1 - (1 : Int))))))) then (.rt false) else (.nx ()))
def l_l_reached_3  (s_4 : (List Int)) (a_4 : (T5 Int Int (Int × Int) (Int × Int) Bool)) : Go ((List Int)) Empty := (let p_1 := (bif ((decide (a_4.a ∈ s_4)) && (!decide (a_4.b ∈ s_4))) then (let l_led_2 := (s_4 ++ [a_4.b]); l_led_2) else s_4); (.nx p_1))
def l_l_reached_2 (k_l_some : (List (T5 Int Int (Int × Int) (Int × Int) Bool))) (s_3 : (List Int)) (a_3 : Int) : Go ((List Int)) Empty := (goN (forG l_l_reached_3 k_l_some s_3) (fun s_5 => (.nx s_5)))
def m_l_reached (l_roads : (List (T5 Int Int (Int × Int) (Int × Int) Bool))) (l_wish : (T4 Int Int (Int × Int) Bool)) (l_reached_here : (List Int)) : Bool := (bif ((!(isList ((eL PyData.int) l_reached_here))) || ((!decide (l_wish.a ∈ l_reached_here)) || (decide (l_wish.b ∈ l_reached_here)))) then false else (goM (forG (l_l_reached_1 l_reached_here) (enumL l_reached_here) ()) (fun r => r) (fun s_2 => (let l_some_1 := ((l_roads.filter (fun (a_2 : (T5 Int Int (Int × Int) (Int × Int) Bool)) => (l_wish.d || (!a_2.e)))).map (fun (a_2 : (T5 Int Int (Int × Int) (Int × Int) Bool)) => a_2)); (let l_led_1 := ([l_wish.a] : (List Int)); (goN (forG (l_l_reached_2 l_some_1) (rng 0 (6 : Int).toNat) l_led_1) (fun s_6 => (eqD (sortI s_6) l_reached_here))))))))
inductive Rch (rs : List Rd) (s : Int) : Int → Prop
  | base : Rch rs s s
  | step {x : Int} {r : Rd} : Rch rs s x → r ∈ rs → r.a = x → Rch rs s r.b
/-- what is led to, so far -/
structure Sw (rs : List Rd) (b : Int) (R : List Int) : Prop where
  rc : RcI R
  st : b ∈ R
  sd : ∀ x ∈ R, Rch rs b x
theorem sw_0 {rs : List Rd} {b : Int} (h : 0 ≤ b ∧ b < 6) : Sw rs b [b] := ⟨rcI_0 h, List.mem_singleton.mpr rfl, fun x hx => by rw [List.mem_singleton.mp hx]; exact .base⟩
theorem Sw.add {rs : List Rd} {b : Int} {R : List Int} (h : Sw rs b R) {r : Rd} (hr : r ∈ rs) (hb : 0 ≤ r.b ∧ r.b < 6) (ha : r.a ∈ R) (hn : r.b ∉ R) : Sw rs b (R ++ [r.b]) := by
  refine ⟨⟨List.nodup_append.mpr ⟨h.rc.nd, by simp, fun x hx y hy z => ?_⟩, fun x hx => ?_⟩, List.mem_append_left _ h.st, fun x hx => ?_⟩
  · rw [List.mem_singleton.mp hy] at z; rw [z] at hx; exact hn hx
  · rcases List.mem_append.mp hx with z | z
    · exact h.rc.rg x z
    · rw [List.mem_singleton.mp z]; exact hb
  · rcases List.mem_append.mp hx with z | z
    · exact h.sd x z
    · rw [List.mem_singleton.mp z]; exact .step (h.sd _ ha) hr rfl
theorem some_ok {rs : List Rd} {lane : Bool} (h : ∀ r ∈ rs, (0 ≤ r.a ∧ r.a < 6) ∧ (0 ≤ r.b ∧ r.b < 6)) : ∀ r ∈ (rs.filter (fun a : Rd => lane || !a.e)).map (fun a => a), (0 ≤ r.a ∧ r.a < 6) ∧ (0 ≤ r.b ∧ r.b < 6) := fun r hr => by
  rw [List.map_id'] at hr
  exact h r (List.mem_filter.mp hr).1
theorem led_all {rs : List Rd} {b : Int} {R : List Int} {a : Rd} (hm : a ∈ rs) (hb : 0 ≤ a.b ∧ a.b < 6) (h : Sw rs b R) : ∃ s', l_l_reached_3 R a = .nx s' ∧ Sw rs b s' ∧ R <+: s' ∧ (a.a ∈ R → a.b ∈ s') := by
  unfold l_l_reached_3
  refine ⟨_, rfl, ?_⟩
  try simp only
  by_cases c1 : a.a ∈ R
  · by_cases c2 : a.b ∈ R
    · rw [decide_eq_true c2, Bool.not_true, Bool.and_false]
      exact ⟨h, List.prefix_refl _, fun _ => c2⟩
    · rw [decide_eq_true c1, decide_eq_false c2]
      exact ⟨h.add hm hb c1 c2, List.prefix_append _ _, fun _ => List.mem_append_right _ (List.mem_singleton.mpr rfl)⟩
  · rw [decide_eq_false c1, Bool.false_and]
    exact ⟨h, List.prefix_refl _, fun z => absurd z c1⟩
theorem led_step {rs : List Rd} {b : Int} {R : List Int} {a : Rd} (hm : a ∈ rs) (hb : (0 ≤ a.a ∧ a.a < 6) ∧ (0 ≤ a.b ∧ a.b < 6)) (h : Sw rs b R) : ∃ s', l_l_reached_3 R a = .nx s' ∧ Sw rs b s' := by
  obtain ⟨s', h1, h2, _⟩ := led_all hm hb.2 h
  exact ⟨s', h1, h2⟩
theorem sweep_all {rs : List Rd} {b : Int} {R : List Int} (hrs : ∀ r ∈ rs, (0 ≤ r.a ∧ r.a < 6) ∧ (0 ≤ r.b ∧ r.b < 6)) (h : Sw rs b R) : ∃ R', forG l_l_reached_3 rs R = .nx R' ∧ Sw rs b R' ∧ R <+: R' ∧ ∀ q ∈ rs, q.a ∈ R → q.b ∈ R' := by
  obtain ⟨s, e, h2, h3, h4⟩ := forG_inv (f := l_l_reached_3) (xs := rs) (fun i s => Sw rs b s ∧ R <+: s ∧ ∀ j q, j < i → rs[j]? = some q → q.a ∈ R → q.b ∈ s) (fun i a s ha hi => by
    obtain ⟨s', k1, k2, k3, k4⟩ := led_all (List.mem_of_getElem? ha) (hrs a (List.mem_of_getElem? ha)).2 hi.1
    refine ⟨s', k1, k2, hi.2.1.trans k3, fun j q hj hq hk => ?_⟩
    by_cases c : j = i
    · subst c; rw [ha] at hq; cases hq; exact k4 (hi.2.1.subset hk)
    · exact k3.subset (hi.2.2 j q (by omega) hq hk)) (s := R) ⟨h, List.prefix_refl _, fun j q hj => absurd hj (Nat.not_lt_zero _)⟩
  exact ⟨s, e, h2, h3, fun q hq hk => by
    obtain ⟨j, hj⟩ := List.getElem?_of_mem hq
    exact h4 j q (get_lt hj) hj hk⟩
theorem sweep_ok {rs : List Rd} {b : Int} {R : List Int} {a : Int} (hrs : ∀ r ∈ rs, (0 ≤ r.a ∧ r.a < 6) ∧ (0 ≤ r.b ∧ r.b < 6)) (h : Sw rs b R) : ∃ R', l_l_reached_2 rs R a = .nx R' ∧ Sw rs b R' := by
  obtain ⟨R', h1, h2, _⟩ := sweep_all hrs h
  exact ⟨R', by unfold l_l_reached_2; rw [goN_nx h1], h2⟩
def r_l_reached (xs : List PyData) (r : Res) : Prop := ∃ (l_roads : (List (T5 Int Int (Int × Int) (Int × Int) Bool))) (l_wish : (T4 Int Int (Int × Int) Bool)) (l_reached_here : (List Int)), (l_roads.length ≤ 13) ∧ (∀ r ∈ l_roads, (0 ≤ r.a ∧ r.a < 6) ∧ (0 ≤ r.b ∧ r.b < 6)) ∧ (0 ≤ l_wish.a ∧ l_wish.a < 6) ∧ xs = [((eL (eT5 PyData.int PyData.int (eP PyData.int PyData.int) (eP PyData.int PyData.int) PyData.bool)) l_roads), ((eT4 PyData.int PyData.int (eP PyData.int PyData.int) PyData.bool) l_wish), ((eL PyData.int) l_reached_here)] ∧ r = .v (.bool (m_l_reached l_roads l_wish l_reached_here))
abbrev N_l_reached : List Str := ["_law_roads", "_law_wish", "_law_reached_here", "_law_k", "_law_place", "_law_some", "_law_road", "_law_led", "_law_turn"]
theorem sc_l_reached : FnScope N_l_reached ["_law_roads", "_law_wish", "_law_reached_here"] (defScope s_l_reached) := ⟨rfl, rfl, rfl, by decide +kernel, rfl, by decide +kernel, by decide +kernel⟩
theorem ok_l_reached (F : Def K mg "_law_reached" s_l_reached ["_law_roads", "_law_wish", "_law_reached_here"]) (T : Txt K mg A) (c_l_whole : Cal P w K mg base "_law_whole" 1 r_l_whole 1) : Cal P w K mg base "_law_reached" 3 r_l_reached 2 := by
  refine cal_ok F sc_l_reached rfl fun fa cdv AA outer ss HH EE X hX C hr xs r hl hR => ?_
  obtain ⟨l_roads, l_wish, l_reached_here, pre_0, pre_1, pre_2, rfl, rfl⟩ := hR
  subst hX
  show DSs _ _ _ [.v ((eL (eT5 PyData.int PyData.int (eP PyData.int PyData.int) (eP PyData.int PyData.int) PyData.bool)) l_roads), .v ((eT4 PyData.int PyData.int (eP PyData.int PyData.int) PyData.bool) l_wish), .v ((eL PyData.int) l_reached_here), .no, .no, .no, .no, .no, .no] _
  refine ds_ifr (DW.toT (dw_or (dt_not (dt_val (de_isi (kit_list ((eL PyData.int) l_reached_here)) (de_v 2 (pv 2)) rfl T.b_isinstance rfl T.b_list))) (fun _ => (dw_or (dt_niI (de_it (de_v 1 (pv 1)) de_int) (de_v 2 (pv 2))) (fun _ => (dw_or1 (dt_inI (de_it (de_v 1 (pv 1)) de_int) (de_v 2 (pv 2))))))))) (fun c_1 => ?_) (fun c_1 => ?_)
  · have q_c_1 := c_1
    try simp only [eqD_t, eqD_f, decide_eq_true_eq, decide_eq_false_iff_not, Bool.not_eq_true', Bool.not_eq_false', Bool.and_eq_true, Bool.or_eq_true, Bool.and_eq_false_iff, Bool.or_eq_false_iff, Bool.not_true, Bool.not_false, Bool.not_not, Decidable.not_not] at q_c_1
    exact ds_retD de_bl (.inl (by first | (simp only [m_l_reached, c_1, cond_true, cond_false, Bool.not_true, Bool.not_false, goM, goN]; first | done | rfl) | (simp only [m_l_reached]; rw [c_1]; first | done | rfl) | (simp only [m_l_reached]; (try dsimp only at c_1); (try simp only [c_1, cond_true, cond_false, Bool.not_true, Bool.not_false, goM, goN]); first | done | rfl)))
  have q_c_1 := c_1
  try simp only [eqD_t, eqD_f, decide_eq_true_eq, decide_eq_false_iff_not, Bool.not_eq_true', Bool.not_eq_false', Bool.and_eq_true, Bool.or_eq_true, Bool.and_eq_false_iff, Bool.or_eq_false_iff, Bool.not_true, Bool.not_false, Bool.not_not, Decidable.not_not] at q_c_1
  refine ds_forG (items := (enumL l_reached_here)) (ea := (eP PyData.int PyData.int)) (fun (s_1 : Unit) => [.v ((eL (eT5 PyData.int PyData.int (eP PyData.int PyData.int) (eP PyData.int PyData.int) PyData.bool)) l_roads), .v ((eT4 PyData.int PyData.int (eP PyData.int PyData.int) PyData.bool) l_wish), .v ((eL PyData.int) l_reached_here), .no, .no, .no, .no, .no, .no]) (l_l_reached_1 l_reached_here) () (fun (i_1 : Nat) (s_1 : Unit) => True) (fun (s_1 : Unit) => True) (fun (r : Bool) o => fin (.v (.bool r)) o) C (di_enumL (de_v 2 (pv 2)) rfl T.b_enumerate) (tg_two rfl (tg_name (ln 3 sc_l_reached.nd)) (tg_name (ln 4 sc_l_reached.nd))) (by repeat (first | exact Le.nil | refine Le.same ?_ | refine Le.drop ?_)) (by first | trivial | omega) ?_ (fun _ h => h) ?_ ?_
  · intro i_1 a_1 s_1 ha_1 hi_1
    refine ⟨[.v ((eL (eT5 PyData.int PyData.int (eP PyData.int PyData.int) (eP PyData.int PyData.int) PyData.bool)) l_roads), .v ((eT4 PyData.int PyData.int (eP PyData.int PyData.int) PyData.bool) l_wish), .v ((eL PyData.int) l_reached_here), .v (.int a_1.1), .v (.int a_1.2), .no, .no, .no, .no], rfl, ?_⟩
    have hei := enumL_mem (List.mem_of_getElem? ha_1)
    refine ds_ifr (DW.toT (dw_or (dt_not (dt_val (de_call (f := "_law_whole") (c_l_whole.at hr) rfl (da_cons (de_v 4 (pv 4)) da_nil) ⟨(.int a_1.2), rfl, rfl⟩))) (fun h_2 => by have q := h_2; (try simp only [eqD_t, eqD_f, decide_eq_true_eq, decide_eq_false_iff_not, Bool.not_eq_true', Bool.not_eq_false', Bool.and_eq_true, Bool.or_eq_true, Bool.and_eq_false_iff, Bool.or_eq_false_iff, Bool.not_true, Bool.not_false, Bool.not_not, Decidable.not_not] at q); exact (dw_or1 (DW.toT (dw_and (dt_gt (de_v 3 (pv 3)) de_int) (fun h_1 => by have q := h_1; (try simp only [eqD_t, eqD_f, decide_eq_true_eq, decide_eq_false_iff_not, Bool.not_eq_true', Bool.not_eq_false', Bool.and_eq_true, Bool.or_eq_true, Bool.and_eq_false_iff, Bool.or_eq_false_iff, Bool.not_true, Bool.not_false, Bool.not_not, Decidable.not_not] at q); exact (dw_and1 (dt_ge (de_ixL (de_v 2 (pv 2)) (de_sub (de_v 3 (pv 3)) de_int) (by first | exact ⟨by omega, by omega⟩ | (first | exact ⟨by omega, by omega⟩ | exact inR_mod (by omega) | (unfold inR; simp only [List.length_map, List.length_append, List.length_cons, List.length_nil, List.length_replicate, rng_len, sx_len]; omega)))) (de_v 4 (pv 4))))))))))) (fun c_2 => ?_) (fun c_2 => ?_)
    · have q_c_2 := c_2
      try simp only [eqD_t, eqD_f, decide_eq_true_eq, decide_eq_false_iff_not, Bool.not_eq_true', Bool.not_eq_false', Bool.and_eq_true, Bool.or_eq_true, Bool.and_eq_false_iff, Bool.or_eq_false_iff, Bool.not_true, Bool.not_false, Bool.not_not, Decidable.not_not] at q_c_2
      exact ds_retD de_bl ⟨false, (by first | (simp only [l_l_reached_1, c_1, c_2, cond_true, cond_false, Bool.not_true, Bool.not_false, goM, goN]; first | done | rfl) | (simp only [l_l_reached_1]; rw [c_1, c_2]; first | done | rfl) | (simp only [l_l_reached_1]; (try dsimp only at c_1); (try dsimp only at c_2); (try simp only [c_1, cond_true, cond_false, Bool.not_true, Bool.not_false, goM, goN]); (try simp only [c_2, cond_true, cond_false, Bool.not_true, Bool.not_false, goM, goN]); first | done | rfl)), .inl rfl⟩
    have q_c_2 := c_2
    try simp only [eqD_t, eqD_f, decide_eq_true_eq, decide_eq_false_iff_not, Bool.not_eq_true', Bool.not_eq_false', Bool.and_eq_true, Bool.or_eq_true, Bool.and_eq_false_iff, Bool.or_eq_false_iff, Bool.not_true, Bool.not_false, Bool.not_not, Decidable.not_not] at q_c_2
    exact ds_nil ⟨(), (by first | (simp only [l_l_reached_1, c_1, c_2, cond_true, cond_false, Bool.not_true, Bool.not_false, goM, goN]; first | done | rfl) | (simp only [l_l_reached_1]; rw [c_1, c_2]; first | done | rfl) | (simp only [l_l_reached_1]; (try dsimp only at c_1); (try dsimp only at c_2); (try simp only [c_1, cond_true, cond_false, Bool.not_true, Bool.not_false, goM, goN]); (try simp only [c_2, cond_true, cond_false, Bool.not_true, Bool.not_false, goM, goN]); first | done | rfl)), (by repeat (first | exact Le.nil | refine Le.same ?_ | refine Le.drop ?_)), (by first | trivial | omega)⟩
  · intro r o f_1 ho hr_
    have hm : m_l_reached l_roads l_wish l_reached_here = r := (by simp only [m_l_reached, f_1, goM, c_1, cond_true, cond_false, Bool.not_true, Bool.not_false, goM, goN]; try rfl)
    rw [hm]; exact hr_
  intro s_2 f_1 hi_1
  obtain ⟨l_some_1, e_l_some_1⟩ : ∃ z : (List (T5 Int Int (Int × Int) (Int × Int) Bool)), z = ((l_roads.filter (fun (a_2 : (T5 Int Int (Int × Int) (Int × Int) Bool)) => (l_wish.d || (!a_2.e)))).map (fun (a_2 : (T5 Int Int (Int × Int) (Int × Int) Bool)) => a_2)) := ⟨_, rfl⟩
  refine ds_then (E' := [.v ((eL (eT5 PyData.int PyData.int (eP PyData.int PyData.int) (eP PyData.int PyData.int) PyData.bool)) l_roads), .v ((eT4 PyData.int PyData.int (eP PyData.int PyData.int) PyData.bool) l_wish), .v ((eL PyData.int) l_reached_here), .no, .no, .o (oL (eT5 PyData.int PyData.int (eP PyData.int PyData.int) (eP PyData.int PyData.int) PyData.bool) ((l_roads.filter (fun (a_2 : (T5 Int Int (Int × Int) (Int × Int) Bool)) => (l_wish.d || (!a_2.e)))).map (fun (a_2 : (T5 Int Int (Int × Int) (Int × Int) Bool)) => a_2))), .no, .no, .no]) (ds_setLcIf (ea := (eT5 PyData.int PyData.int (eP PyData.int PyData.int) (eP PyData.int PyData.int) PyData.bool)) (eb := (eT5 PyData.int PyData.int (eP PyData.int PyData.int) (eP PyData.int PyData.int) PyData.bool)) (items := l_roads) (fun (a_2 : (T5 Int Int (Int × Int) (Int × Int) Bool)) => (l_wish.d || (!a_2.e))) (fun (a_2 : (T5 Int Int (Int × Int) (Int × Int) Bool)) => a_2) (ln 5 sc_l_reached.nd) rfl (sw_true rfl rfl rfl (by decide +kernel)) rfl (di_list (de_v 0 (pv 0))) (blkOk_by (N := N_l_reached) (sc := defScope s_l_reached) (own := [("_law_road", 6)]) (by decide +kernel)) (fun _ _ _ _ _ => (tg_name (ln 6 sc_l_reached.nd))) (by rw [sizeLine_eq]; omega) (fun a_2 h_a_2 => ⟨[.v ((eL (eT5 PyData.int PyData.int (eP PyData.int PyData.int) (eP PyData.int PyData.int) PyData.bool)) l_roads), .v ((eT4 PyData.int PyData.int (eP PyData.int PyData.int) PyData.bool) l_wish), .v ((eL PyData.int) l_reached_here), .no, .no, .no, .v ((eT5 PyData.int PyData.int (eP PyData.int PyData.int) (eP PyData.int PyData.int) PyData.bool) a_2), .no, .no], rfl, fun _ _ _ _ _ => ⟨(DW.toT (dw_or (dt_val (de_it (de_v 1 (pv 1)) de_int)) (fun _ => (dw_or1 (dt_not (dt_val (de_it (de_v 6 (pv 6)) de_int))))))), fun _ => (de_v 6 (pv 6))⟩⟩)) ?_
  rw [← e_l_some_1]
  refine ds_freezeL 5 (E' := [.v ((eL (eT5 PyData.int PyData.int (eP PyData.int PyData.int) (eP PyData.int PyData.int) PyData.bool)) l_roads), .v ((eT4 PyData.int PyData.int (eP PyData.int PyData.int) PyData.bool) l_wish), .v ((eL PyData.int) l_reached_here), .no, .no, .v ((eL (eT5 PyData.int PyData.int (eP PyData.int PyData.int) (eP PyData.int PyData.int) PyData.bool)) l_some_1), .no, .no, .no]) rfl rfl ?_
  have hsm : ∀ r ∈ l_some_1, (0 ≤ r.a ∧ r.a < 6) ∧ (0 ≤ r.b ∧ r.b < 6) := by rw [e_l_some_1]; exact some_ok pre_1
  have hsl : l_some_1.length ≤ 13 := by rw [e_l_some_1, List.length_map]; exact Nat.le_trans (List.length_filter_le ..) pre_0
  obtain ⟨l_led_1, e_l_led_1⟩ : ∃ z : (List Int), z = ([l_wish.a] : (List Int)) := ⟨_, rfl⟩
  refine ds_then (E' := [.v ((eL (eT5 PyData.int PyData.int (eP PyData.int PyData.int) (eP PyData.int PyData.int) PyData.bool)) l_roads), .v ((eT4 PyData.int PyData.int (eP PyData.int PyData.int) PyData.bool) l_wish), .v ((eL PyData.int) l_reached_here), .no, .no, .v ((eL (eT5 PyData.int PyData.int (eP PyData.int PyData.int) (eP PyData.int PyData.int) PyData.bool)) l_some_1), .no, .o (oL PyData.int l_led_1), .no]) (ds_setN (t := oL PyData.int l_led_1) (ln 7 sc_l_reached.nd) (dnC (by subst e_l_led_1; rfl) (dn_lst (da_cons (de_it (de_v 1 (pv 1)) de_int) da_nil)))) ?_
  refine ds_forG (items := (rng 0 (6 : Int).toNat)) (ea := PyData.int) (fun (s_3 : (List Int)) => [.v ((eL (eT5 PyData.int PyData.int (eP PyData.int PyData.int) (eP PyData.int PyData.int) PyData.bool)) l_roads), .v ((eT4 PyData.int PyData.int (eP PyData.int PyData.int) PyData.bool) l_wish), .v ((eL PyData.int) l_reached_here), .no, .no, .v ((eL (eT5 PyData.int PyData.int (eP PyData.int PyData.int) (eP PyData.int PyData.int) PyData.bool)) l_some_1), .no, .o (oL PyData.int s_3), .no]) (l_l_reached_2 l_some_1) l_led_1 (fun (i_2 : Nat) (s_3 : (List Int)) => Sw l_some_1 l_wish.a s_3) (fun (s_3 : (List Int)) => Sw l_some_1 l_wish.a s_3) (fun (_ : Empty) _ => False) C (di_range1L de_int ⟨by omega, by omega⟩ rfl T.b_range) (tg_name (ln 8 sc_l_reached.nd)) (by repeat (first | exact Le.nil | refine Le.same ?_ | refine Le.drop ?_)) (by subst e_l_led_1; exact sw_0 pre_2) ?_ (fun _ h => h) ?_ ?_
  · intro i_2 a_3 s_3 ha_2 hi_2
    refine ⟨[.v ((eL (eT5 PyData.int PyData.int (eP PyData.int PyData.int) (eP PyData.int PyData.int) PyData.bool)) l_roads), .v ((eT4 PyData.int PyData.int (eP PyData.int PyData.int) PyData.bool) l_wish), .v ((eL PyData.int) l_reached_here), .no, .no, .v ((eL (eT5 PyData.int PyData.int (eP PyData.int PyData.int) (eP PyData.int PyData.int) PyData.bool)) l_some_1), .no, .o (oL PyData.int s_3), .v (.int a_3)], rfl, ?_⟩
    refine ds_forG (items := l_some_1) (ea := (eT5 PyData.int PyData.int (eP PyData.int PyData.int) (eP PyData.int PyData.int) PyData.bool)) (fun (s_4 : (List Int)) => [.v ((eL (eT5 PyData.int PyData.int (eP PyData.int PyData.int) (eP PyData.int PyData.int) PyData.bool)) l_roads), .v ((eT4 PyData.int PyData.int (eP PyData.int PyData.int) PyData.bool) l_wish), .v ((eL PyData.int) l_reached_here), .no, .no, .v ((eL (eT5 PyData.int PyData.int (eP PyData.int PyData.int) (eP PyData.int PyData.int) PyData.bool)) l_some_1), .no, .o (oL PyData.int s_4), .v (.int a_3)]) l_l_reached_3 s_3 (fun (i_3 : Nat) (s_4 : (List Int)) => Sw l_some_1 l_wish.a s_4) (fun (s_4 : (List Int)) => Sw l_some_1 l_wish.a s_4) (fun (_ : Empty) _ => False) C (di_list (de_v 5 (pv 5))) (tg_name (ln 6 sc_l_reached.nd)) (by repeat (first | exact Le.nil | refine Le.same ?_ | refine Le.drop ?_)) (by exact hi_2) ?_ (fun _ h => h) ?_ ?_
    · intro i_3 a_4 s_4 ha_3 hi_3
      refine ⟨[.v ((eL (eT5 PyData.int PyData.int (eP PyData.int PyData.int) (eP PyData.int PyData.int) PyData.bool)) l_roads), .v ((eT4 PyData.int PyData.int (eP PyData.int PyData.int) PyData.bool) l_wish), .v ((eL PyData.int) l_reached_here), .no, .no, .v ((eL (eT5 PyData.int PyData.int (eP PyData.int PyData.int) (eP PyData.int PyData.int) PyData.bool)) l_some_1), .v ((eT5 PyData.int PyData.int (eP PyData.int PyData.int) (eP PyData.int PyData.int) PyData.bool) a_4), .o (oL PyData.int s_4), .v (.int a_3)], rfl, ?_⟩
      obtain ⟨p_1, e_p_1⟩ : ∃ z : (List Int), z = (bif ((decide (a_4.a ∈ s_4)) && (!decide (a_4.b ∈ s_4))) then (let l_led_2 := (s_4 ++ [a_4.b]); l_led_2) else s_4) := ⟨_, rfl⟩
      try dsimp only at e_p_1
      refine ds_ifl (E' := [.v ((eL (eT5 PyData.int PyData.int (eP PyData.int PyData.int) (eP PyData.int PyData.int) PyData.bool)) l_roads), .v ((eT4 PyData.int PyData.int (eP PyData.int PyData.int) PyData.bool) l_wish), .v ((eL PyData.int) l_reached_here), .no, .no, .v ((eL (eT5 PyData.int PyData.int (eP PyData.int PyData.int) (eP PyData.int PyData.int) PyData.bool)) l_some_1), .v ((eT5 PyData.int PyData.int (eP PyData.int PyData.int) (eP PyData.int PyData.int) PyData.bool) a_4), .o (oL PyData.int p_1), .v (.int a_3)]) (dt_borrowS 7 (dat_L PyData.int) rfl (DW.toT (dw_and (dt_inI (de_it (de_v 6 (pv 6)) de_int) (de_v 7 (pv 7))) (fun _ => (dw_and1 (dt_niI (de_it (de_v 6 (pv 6)) de_int) (de_v 7 (pv 7)))))))) (fun c_3 => ?_) (fun c_3 => ?_) ?_
      · have q_c_3 := c_3
        try simp only [eqD_t, eqD_f, decide_eq_true_eq, decide_eq_false_iff_not, Bool.not_eq_true', Bool.not_eq_false', Bool.and_eq_true, Bool.or_eq_true, Bool.and_eq_false_iff, Bool.or_eq_false_iff, Bool.not_true, Bool.not_false, Bool.not_not, Decidable.not_not] at q_c_3
        obtain ⟨l_led_2, e_l_led_2⟩ : ∃ z : (List Int), z = (s_4 ++ [a_4.b]) := ⟨_, rfl⟩
        refine ds_then (E' := [.v ((eL (eT5 PyData.int PyData.int (eP PyData.int PyData.int) (eP PyData.int PyData.int) PyData.bool)) l_roads), .v ((eT4 PyData.int PyData.int (eP PyData.int PyData.int) PyData.bool) l_wish), .v ((eL PyData.int) l_reached_here), .no, .no, .v ((eL (eT5 PyData.int PyData.int (eP PyData.int PyData.int) (eP PyData.int PyData.int) PyData.bool)) l_some_1), .v ((eT5 PyData.int PyData.int (eP PyData.int PyData.int) (eP PyData.int PyData.int) PyData.bool) a_4), .o (oL PyData.int l_led_2), .v (.int a_3)]) (ds_appendL (f := PyData.int) (v := a_4.b) (xs := s_4) (fun _ => pv 7) (de_it (de_v 6 (pv 6)) de_int) rfl (by rw [sizeLine_eq]; (have h7 := hi_3.rc.le; omega)) (by subst e_l_led_2; rfl)) ?_
        exact ds_nil (by subst e_p_1 e_l_led_2; (try simp only [c_1, f_1, c_3, cond_true, cond_false, Bool.not_true, Bool.not_false, goM, goN]); (show Le _ _); repeat (first | exact Le.nil | refine Le.same ?_ | refine Le.drop ?_))
      · have q_c_3 := c_3
        try simp only [eqD_t, eqD_f, decide_eq_true_eq, decide_eq_false_iff_not, Bool.not_eq_true', Bool.not_eq_false', Bool.and_eq_true, Bool.or_eq_true, Bool.and_eq_false_iff, Bool.or_eq_false_iff, Bool.not_true, Bool.not_false, Bool.not_not, Decidable.not_not] at q_c_3
        exact ds_nil (by subst e_p_1; (try simp only [c_1, f_1, c_3, cond_true, cond_false, Bool.not_true, Bool.not_false, goM, goN]); (show Le _ _); repeat (first | exact Le.nil | refine Le.same ?_ | refine Le.drop ?_))
      exact ds_nil ⟨p_1, (by subst e_l_some_1 e_l_led_1 e_p_1; first | (simp only [l_l_reached_3, c_1, f_1, cond_true, cond_false, Bool.not_true, Bool.not_false, goM, goN]; first | done | rfl) | (simp only [l_l_reached_3]; rw [c_1, f_1]; first | done | rfl) | (simp only [l_l_reached_3]; (try dsimp only at c_1); (try dsimp only at f_1); (try simp only [c_1, cond_true, cond_false, Bool.not_true, Bool.not_false, goM, goN]); (try simp only [f_1, cond_true, cond_false, Bool.not_true, Bool.not_false, goM, goN]); first | done | rfl)), (by repeat (first | exact Le.nil | refine Le.same ?_ | refine Le.drop ?_)), (by have hz := go_inv (v := p_1) (led_step (List.mem_of_getElem? ha_3) (hsm _ (List.mem_of_getElem? ha_3)) hi_3) (by subst e_l_some_1 e_l_led_1 e_p_1; first | (simp only [l_l_reached_3, c_1, f_1, cond_true, cond_false, Bool.not_true, Bool.not_false, goM, goN]; first | done | rfl) | (simp only [l_l_reached_3]; rw [c_1, f_1]; first | done | rfl) | (simp only [l_l_reached_3]; (try dsimp only at c_1); (try dsimp only at f_1); (try simp only [c_1, cond_true, cond_false, Bool.not_true, Bool.not_false, goM, goN]); (try simp only [f_1, cond_true, cond_false, Bool.not_true, Bool.not_false, goM, goN]); first | done | rfl)); exact hz)⟩
    · intro r o f_2 ho hr_
      exact r.elim
    intro s_5 f_2 hi_3
    exact ds_nil ⟨s_5, (by subst e_l_some_1 e_l_led_1; first | (simp only [l_l_reached_2, c_1, f_1, f_2, cond_true, cond_false, Bool.not_true, Bool.not_false, goM, goN]; first | done | rfl) | (simp only [l_l_reached_2]; rw [c_1, f_1, f_2]; first | done | rfl) | (simp only [l_l_reached_2]; (try dsimp only at c_1); (try dsimp only at f_1); (try dsimp only at f_2); (try simp only [c_1, cond_true, cond_false, Bool.not_true, Bool.not_false, goM, goN]); (try simp only [f_1, cond_true, cond_false, Bool.not_true, Bool.not_false, goM, goN]); (try simp only [f_2, cond_true, cond_false, Bool.not_true, Bool.not_false, goM, goN]); first | done | rfl)), (by repeat (first | exact Le.nil | refine Le.same ?_ | refine Le.drop ?_)), (by have hz := go_inv (v := s_5) (sweep_ok (a := a_3) hsm hi_2) (by subst e_l_some_1 e_l_led_1; first | (simp only [l_l_reached_2, c_1, f_1, f_2, cond_true, cond_false, Bool.not_true, Bool.not_false, goM, goN]; first | done | rfl) | (simp only [l_l_reached_2]; rw [c_1, f_1, f_2]; first | done | rfl) | (simp only [l_l_reached_2]; (try dsimp only at c_1); (try dsimp only at f_1); (try dsimp only at f_2); (try simp only [c_1, cond_true, cond_false, Bool.not_true, Bool.not_false, goM, goN]); (try simp only [f_1, cond_true, cond_false, Bool.not_true, Bool.not_false, goM, goN]); (try simp only [f_2, cond_true, cond_false, Bool.not_true, Bool.not_false, goM, goN]); first | done | rfl)); exact hz)⟩
  · intro r o f_3 ho hr_
    exact r.elim
  intro s_6 f_3 hi_2
  refine ds_freezeL 7 (E' := [.v ((eL (eT5 PyData.int PyData.int (eP PyData.int PyData.int) (eP PyData.int PyData.int) PyData.bool)) l_roads), .v ((eT4 PyData.int PyData.int (eP PyData.int PyData.int) PyData.bool) l_wish), .v ((eL PyData.int) l_reached_here), .no, .no, .v ((eL (eT5 PyData.int PyData.int (eP PyData.int PyData.int) (eP PyData.int PyData.int) PyData.bool)) l_some_1), .no, .v ((eL PyData.int) s_6), .no]) rfl rfl ?_
  exact ds_retD (de_eqU (x := (sortI s_6)) (y := l_reached_here) hr.units (eqE_L eqE_int) (DN.toL (f := PyData.int) (xs := (sortI s_6)) (dn_sortI hr.units (de_v 7 (pv 7)) rfl T.b_sorted)) (de_v 2 (pv 2))) (.inl (by subst e_l_some_1 e_l_led_1; first | (simp only [m_l_reached, c_1, f_1, f_3, cond_true, cond_false, Bool.not_true, Bool.not_false, goM, goN]; first | done | rfl) | (simp only [m_l_reached]; rw [c_1, f_1, f_3]; first | done | rfl) | (simp only [m_l_reached]; (try dsimp only at c_1); (try dsimp only at f_1); (try dsimp only at f_3); (try simp only [c_1, cond_true, cond_false, Bool.not_true, Bool.not_false, goM, goN]); (try simp only [f_1, cond_true, cond_false, Bool.not_true, Bool.not_false, goM, goN]); (try simp only [f_3, cond_true, cond_false, Bool.not_true, Bool.not_false, goM, goN]); first | done | rfl)))
/-- all that is led to, and nothing else -/
structure Full (rs : List Rd) (b : Int) (R : List Int) : Prop where
  sw : Sw rs b R
  cl : ∀ q ∈ rs, q.a ∈ R → q.b ∈ R
theorem Full.mem {rs : List Rd} {b : Int} {R : List Int} (h : Full rs b R) {x : Int} : x ∈ R ↔ Rch rs b x := by
  refine ⟨h.sw.sd x, fun k => ?_⟩
  induction k with
  | base => exact h.sw.st
  | step _ hr ha ih => exact h.cl _ hr (by rw [ha]; exact ih)
theorem sortI_pw (R : List Int) : (sortI R).Pairwise (fun a b => a ≤ b) := by
  have h := List.pairwise_mergeSort (le := fun a b : Int => decide (a ≤ b)) (fun a b c h1 h2 => decide_eq_true (Int.le_trans (of_decide_eq_true h1) (of_decide_eq_true h2))) (fun a b => by
    rcases Int.le_total a b with z | z
    · rw [decide_eq_true z]; rfl
    · rw [decide_eq_true z, Bool.or_true]) R
  exact h.imp fun z => of_decide_eq_true z
theorem sortI_perm (R : List Int) : (sortI R).Perm R := List.mergeSort_perm _ _
theorem Full.sort {rs : List Rd} {b : Int} {R T : List Int} (h : Full rs b R) (k : Full rs b T) : sortI R = sortI T := by
  have hp : R.Perm T := (List.perm_ext_iff_of_nodup h.sw.rc.nd k.sw.rc.nd).mpr fun x => h.mem.trans k.mem.symm
  exact List.Perm.eq_of_pairwise (fun a b _ _ h1 h2 => Int.le_antisymm h1 h2) (sortI_pw R) (sortI_pw T) ((sortI_perm R).trans (hp.trans (sortI_perm T).symm))
theorem sortI_up {R : List Int} (hn : R.Nodup) {i j : Nat} {x y : Int} (hij : i < j) (hx : (sortI R)[i]? = some x) (hy : (sortI R)[j]? = some y) : x < y := by
  have h1 := sortI_pw R
  have h2 : (sortI R).Nodup := (sortI_perm R).nodup_iff.mpr hn
  have li := get_lt hx
  have lj := get_lt hy
  have e1 := List.pairwise_iff_getElem.mp h1 i j li lj hij
  have e2 := List.pairwise_iff_getElem.mp h2 i j li lj hij
  rw [List.getElem?_eq_getElem li] at hx
  rw [List.getElem?_eq_getElem lj] at hy
  cases hx; cases hy
  omega
theorem led_full {rs : List Rd} {b : Int} (hrs : ∀ r ∈ rs, (0 ≤ r.a ∧ r.a < 6) ∧ (0 ≤ r.b ∧ r.b < 6)) (hb : 0 ≤ b ∧ b < 6) : ∃ R, forG (l_l_reached_2 rs) (rng 0 (6 : Int).toNat) [b] = .nx R ∧ Full rs b R := by
  obtain ⟨R, e, h1, h2⟩ := forG_inv (f := l_l_reached_2 rs) (xs := rng 0 (6 : Int).toNat) (fun i R => Sw rs b R ∧ (i + 1 ≤ R.length ∨ ∀ q ∈ rs, q.a ∈ R → q.b ∈ R)) (fun i a R ha hi => by
    obtain ⟨R', k1, k2, k3, k4⟩ := sweep_all hrs hi.1
    refine ⟨R', by unfold l_l_reached_2; rw [goN_nx k1], k2, ?_⟩
    by_cases c : R'.length ≤ R.length
    · have : R = R' := k3.eq_of_length (Nat.le_antisymm k3.length_le c)
      subst this
      exact .inr k4
    · rcases hi.2 with z | z
      · exact .inl (by omega)
      · exfalso
        have hs : ∀ x ∈ R', x ∈ R := fun x hx => (⟨hi.1, z⟩ : Full rs b R).mem.mpr (k2.sd x hx)
        exact c (k2.rc.nd.length_le_of_subset hs)) (s := [b]) ⟨sw_0 hb, .inl (Nat.le_refl 1)⟩
  refine ⟨R, e, h1, ?_⟩
  rcases h2 with z | z
  · exfalso
    have := h1.rc.le
    rw [rng_len] at z
    have e6 : (6 : Int).toNat = 6 := rfl
    omega
  · exact z
theorem reached_true {rs : List Rd} {w : Ws} {R : List Int} (h2 : ∀ r ∈ rs, (0 ≤ r.a ∧ r.a < 6) ∧ (0 ≤ r.b ∧ r.b < 6)) (hs : 0 ≤ w.a ∧ w.a < 6) (hf : Full (rs.filter fun r => w.d || !r.e) w.a R) (hn : w.b ∉ R) : m_l_reached rs w (sortI R) = true := by
  have hm : ∀ x, x ∈ sortI R ↔ x ∈ R := fun x => (sortI_perm R).mem_iff
  unfold m_l_reached
  rw [decide_eq_true ((hm _).mpr hf.sw.st), decide_eq_false (show ¬ w.b ∈ sortI R from fun z => hn ((hm _).mp z))]
  show goM (forG (l_l_reached_1 (sortI R)) (enumL (sortI R)) ()) (fun r => r) _ = true
  have e1 : forG (l_l_reached_1 (sortI R)) (enumL (sortI R)) () = .nx () := by
    obtain ⟨u, e, _⟩ := forG_inv (f := l_l_reached_1 (sortI R)) (xs := enumL (sortI R)) (fun _ _ => True) (fun i a s ha _ => by
      refine ⟨(), ?_, trivial⟩
      unfold l_l_reached_1
      have hw : m_l_whole (.int a.2) = true := rfl
      rw [hw]
      show (bif (decide ((0 : Int) < a.1) && decide (a.2 ≤ gx (sortI R) (a.1 - 1))) then _ else _) = _
      by_cases c : (0 : Int) < a.1
      · have hp := enumL_gx (List.mem_of_getElem? ha)
        have hi := enumL_mem (List.mem_of_getElem? ha)
        have g1 := gx_natI (sortI R) (q := a.1) hi.1 hi.2
        have g0 := gx_natI (sortI R) (q := a.1 - 1) (by omega) (by omega)
        have := sortI_up hf.sw.rc.nd (show (a.1 - 1).toNat < a.1.toNat by omega) g0 g1
        rw [hp] at this
        rw [decide_eq_false (show ¬ a.2 ≤ gx (sortI R) (a.1 - 1) by omega), Bool.and_false]
        rfl
      · rw [decide_eq_false c, Bool.false_and]
        rfl) (s := ()) trivial
    exact e
  rw [goM_nx e1]
  simp only
  rw [List.map_id']
  obtain ⟨T, k1, k2⟩ := led_full (rs := rs.filter fun r => w.d || !r.e) (fun r hr => h2 r (List.mem_filter.mp hr).1) hs
  rw [goN_nx k1, k2.sort hf, eqD_self]
theorem gx_pre {r s : List Int} (h : r <+: s) {j : Int} (h0 : 0 ≤ j) (h1 : j < (r.length : Int)) : gx s j = gx r j := by
  obtain ⟨t, rfl⟩ := h
  have e1 := gx_natI (r ++ t) (q := j) h0 (by rw [List.length_append]; omega)
  have e2 := gx_natI r (q := j) h0 h1
  rw [List.getElem?_append_left (by omega), e2] at e1
  exact (Option.some.inj e1).symm
theorem fit_loop (net : Int × List Rd) : ∀ xs : List PyData, forG (l_made_wishes_1 net) xs () = if (xs.all fun x => m_wish_fits x net.1) = true then .nx () else .rt (.error (er 3))
  | [] => rfl
  | x :: xs => by
    have e : l_made_wishes_1 net () x = bif !(m_wish_fits x net.1) then .rt (.error (er 3)) else .nx () := rfl
    rw [forG, e, List.all_cons]
    cases m_wish_fits x net.1 with
    | true => rw [Bool.true_and]; exact fit_loop net xs
    | false => rw [Bool.false_and]; rfl
abbrev noWay (net : Int × List Rd) (x : Int × T4 Int Int Fr Bool) : Bool := !decide (x.2.b ∈ m_reached_from net x.2.a x.2.d)
theorem ask_loop (net : Int × List Rd) : ∀ xs : List (Int × T4 Int Int Fr Bool), forG (l_made_wishes_2 net) xs () = match xs.find? (noWay net) with
      | none => .nx ()
      | some x => .rt (.error ⟨4, x.1, m_reached_from net x.2.a x.2.d⟩)
  | [] => rfl
  | x :: xs => by
    have e : l_made_wishes_2 net () x = exG (m_ask_way net x.2.a x.2.b x.2.d x.1) (fun _ => .nx ()) := rfl
    rw [forG, e, ask_is]
    by_cases c : x.2.b ∈ m_reached_from net x.2.a x.2.d
    · have hc : noWay net x = false := by show (!decide _) = false; rw [decide_eq_true c]; rfl
      rw [if_pos c, List.find?_cons, hc]
      exact ask_loop net xs
    · have hc : noWay net x = true := by show (!decide _) = true; rw [decide_eq_false c]; rfl
      rw [if_neg c, List.find?_cons, hc]
      rfl
theorem asWS_e (ws : List (T4 Int Int Fr Bool)) : (ws.map eWS).map asWS = ws := by
  rw [List.map_map]
  have : (asWS ∘ eWS) = id := funext fun w => by
    obtain ⟨a, b, c, d⟩ := w
    rfl
  rw [this, List.map_id]
theorem made_typed {net : Int × List Rd} {ws : List (T4 Int Int Fr Bool)} (h1 : 1 ≤ ws.length ∧ ws.length ≤ 3) (hf : ∀ w ∈ ws, m_wish_fits (eWS w) net.1 = true) :
    m_made_wishes net (ws.map eWS) = match (enumL ws).find? (noWay net) with
      | none => if (10 : Int) < (ws.map (fun w => ((m_ways_of net w).length : Int))).sum then .error (er 5) else .ok ws
      | some x => .error ⟨4, x.1, m_reached_from net x.2.a x.2.d⟩ := by
  have hall : ((ws.map eWS).all fun x => m_wish_fits x net.1) = true := List.all_eq_true.mpr fun x hx => by
    obtain ⟨w, hw, rfl⟩ := List.mem_map.mp hx
    exact hf w hw
  unfold m_made_wishes
  rw [List.length_map, decide_eq_false (show ¬ (ws.length : Int) < 1 by omega), decide_eq_false (show ¬ (3 : Int) < ws.length by omega), fit_loop, if_pos hall, asWS_e]
  show goM (forG (l_made_wishes_2 net) (enumL ws) ()) (fun r => r) _ = _
  rw [ask_loop]
  cases (enumL ws).find? (noWay net) with
  | some x => rfl
  | none =>
    show (bif decide ((10 : Int) < (ws.map (fun w => ((m_ways_of net w).length : Int))).sum) then _ else _) = _
    by_cases c : (10 : Int) < (ws.map (fun w => ((m_ways_of net w).length : Int))).sum
    · rw [if_pos c, decide_eq_true c]; rfl
    · rw [if_neg c, decide_eq_false c]; rfl
theorem usable_map (net : Int × List Rd) (lane : Bool) : (m_usable_roads net lane).map (fun k => gx net.2 k) = net.2.filter (fun r => lane || !r.e) := by
  unfold m_usable_roads
  rw [List.map_map]
  have e1 : ((enumL net.2).filter (fun a => lane || !a.2.e)).map ((fun k => gx net.2 k) ∘ fun a => a.1) = ((enumL net.2).filter (fun a => lane || !a.2.e)).map (·.2) := List.map_congr_left fun a ha => enumL_gx (List.mem_filter.mp ha).1
  rw [e1]
  have e2 : (enumL net.2).filter (fun a => lane || !a.2.e) = (enumL net.2).filter ((fun r : Rd => lane || !r.e) ∘ (·.2)) := rfl
  rw [e2, ← List.filter_map, enumL_snd]
theorem find_congr {α : Type} {p q : α → Bool} : ∀ {xs : List α}, (∀ x ∈ xs, p x = q x) → xs.find? p = xs.find? q
  | [], _ => rfl
  | x :: xs, h => by
    rw [List.find?_cons, List.find?_cons, h x List.mem_cons_self, find_congr fun y hy => h y (List.mem_cons_of_mem _ hy)]
theorem from_pass {rs : List Rd} {r : List Int} {k b : Int} (hrs : ∀ q ∈ rs, (0 ≤ q.a ∧ q.a < 6) ∧ (0 ≤ q.b ∧ q.b < 6)) (h : Sw rs b r) (h0 : 0 ≤ k) (h1 : k < (r.length : Int)) : ∃ r', forG (l_reached_from_2 k) rs r = .nx r' ∧ Sw rs b r' ∧ r <+: r' ∧ ∀ q ∈ rs, q.a = gx r k → q.b ∈ r' := by
  obtain ⟨s, e, h2, h3, h4⟩ := forG_inv (f := l_reached_from_2 k) (xs := rs) (fun i s => Sw rs b s ∧ r <+: s ∧ ∀ j q, j < i → rs[j]? = some q → q.a = gx r k → q.b ∈ s) (fun i a s ha hi => by
    have hg := gx_pre hi.2.1 h0 h1
    have hm := List.mem_of_getElem? ha
    have e1 : l_reached_from_2 k s a = .nx (bif (decide (a.a = gx s k) && !decide (a.b ∈ s)) then s ++ [a.b] else s) := rfl
    have hl := hi.2.1.length_le
    have key : ∃ s', l_reached_from_2 k s a = .nx s' ∧ Sw rs b s' ∧ s <+: s' ∧ (a.a = gx s k → a.b ∈ s') := by
      refine ⟨_, e1, ?_⟩
      by_cases c1 : a.a = gx s k
      · by_cases c2 : a.b ∈ s
        · rw [decide_eq_true c2, Bool.not_true, Bool.and_false]
          exact ⟨hi.1, List.prefix_refl _, fun _ => c2⟩
        · rw [decide_eq_true c1, decide_eq_false c2]
          exact ⟨hi.1.add hm (hrs a hm).2 (by rw [c1]; exact gx_mem ⟨by omega, by omega⟩) c2, List.prefix_append _ _, fun _ => List.mem_append_right _ (List.mem_singleton.mpr rfl)⟩
      · rw [decide_eq_false c1, Bool.false_and]
        exact ⟨hi.1, List.prefix_refl _, fun z => absurd z c1⟩
    obtain ⟨s', k1, k2, k3, k4⟩ := key
    refine ⟨s', k1, k2, hi.2.1.trans k3, fun j q hj hq hk => ?_⟩
    by_cases c : j = i
    · subst c; rw [ha] at hq; cases hq; exact k4 (hk.trans hg.symm)
    · exact k3.subset (hi.2.2 j q (by omega) hq hk)) (s := r) ⟨h, List.prefix_refl _, fun j q hj => absurd hj (Nat.not_lt_zero _)⟩
  exact ⟨s, e, h2, h3, fun q hq hk => by
    obtain ⟨j, hj⟩ := List.getElem?_of_mem hq
    exact h4 j q (get_lt hj) hj hk⟩
theorem net_full {net : Int × List Rd} {s : Int} {lane : Bool} (h2 : ∀ r ∈ net.2, (0 ≤ r.a ∧ r.a < 6) ∧ (0 ≤ r.b ∧ r.b < 6)) (hs : 0 ≤ s ∧ s < 6) : ∃ R, m_reached_from net s lane = sortI R ∧ Full (net.2.filter fun r => lane || !r.e) s R := by
  have hrs : ∀ r ∈ net.2.filter (fun r => lane || !r.e), (0 ≤ r.a ∧ r.a < 6) ∧ (0 ≤ r.b ∧ r.b < 6) := fun r hr => h2 r (List.mem_filter.mp hr).1
  unfold m_reached_from
  simp only
  rw [usable_map]
  generalize (net.2.filter fun r => lane || !r.e) = rs at *
  obtain ⟨z, k1, ⟨k2, k3, k4⟩, k6⟩ := whileG_inv (c := l_reached_from_1_c rs) (f := l_reached_from_1 rs) (fun z => Sw rs s z.1 ∧ 0 ≤ z.2 ∧ ∀ j, 0 ≤ j → j < z.2 → j < (z.1.length : Int) → ∀ q ∈ rs, q.a = gx z.1 j → q.b ∈ z.1) (fun z => (6 - z.2).toNat) (fun z hz hcz => by
    have hlt : z.2 < (z.1.length : Int) := of_decide_eq_true hcz
    obtain ⟨r', e1, e2, e3, e4⟩ := from_pass hrs hz.1 hz.2.1 hlt
    have hl := e3.length_le
    have h6 := hz.1.rc.le
    have h0 := hz.2.1
    refine ⟨(r', z.2 + 1), ?_, ⟨e2, by show 0 ≤ z.2 + 1; omega, fun j j0 j1 j2 q hq hk => ?_⟩, ?_⟩
    · unfold l_reached_from_1
      rw [goN_nx e1]
    · have j1' : j < z.2 + 1 := j1
      have hg := gx_pre e3 j0 (show j < (z.1.length : Int) by omega)
      have hk' : q.a = gx z.1 j := hk.trans hg
      by_cases c : j = z.2
      · rw [c] at hk'; exact e4 q hq hk'
      · exact e3.subset (hz.2.2 j j0 (by omega) (by omega) q hq hk')
    · show (6 - (z.2 + 1)).toNat < _
      omega) ((6 - (0 : Int)).toNat + 1) ([s], 0) ⟨sw_0 hs, Int.le_refl _, fun j j0 j1 => absurd j1 (by show ¬ j < 0; omega)⟩ (Nat.lt_succ_self _)
  rw [goN_nx k1]
  have hge : ¬ z.2 < (z.1.length : Int) := of_decide_eq_false k6
  refine ⟨z.1, rfl, k2, fun q hq hm => ?_⟩
  obtain ⟨j, hj⟩ := List.getElem?_of_mem hm
  have hl := get_lt hj
  have hg := gx_natI z.1 (q := (j : Int)) (by omega) (by omega)
  rw [show ((j : Int)).toNat = j by omega, hj] at hg
  exact k4 (j : Int) (by omega) (by omega) (by omega) q hq (Option.some.inj hg)
/-! who is reached has a way that comes to no place twice -/
inductive Sp (us : List Itm) (s : Int) : List Int → Prop
  | base : Sp us s [s]
  | step {l : List Int} {q : Itm} : Sp us s l → q ∈ us → q.2.1 = gx l (-1) → q.2.2 ∉ l → Sp us s (l ++ [q.2.2])
theorem Sp.cn {us : List Itm} {s e : Int} {l : List Int} (h : Sp us s l) : Cn us e l → Cn us e [s] := by
  induction h with
  | base => exact id
  | step _ hq h1 h2 ih => exact fun k => ih (.step hq h1 h2 k)
theorem Sp.at {us : List Itm} {s y : Int} {l : List Int} (h : Sp us s l) : y ∈ l → ∃ l', Sp us s l' ∧ gx l' (-1) = y := by
  induction h with
  | base => exact fun hy => ⟨[s], .base, by rw [List.mem_singleton.mp hy]; exact gx_snoc [] s⟩
  | @step l q hl hq h1 h2 ih =>
    intro hy
    rcases List.mem_append.mp hy with z | z
    · exact ih z
    · exact ⟨_, .step hl hq h1 h2, by rw [List.mem_singleton.mp z]; exact gx_snoc _ _⟩
theorem rch_sp {rs : List Rd} {lane : Bool} {s x : Int} (h : Rch (rs.filter fun r => lane || !r.e) s x) : ∃ l, Sp (usb rs lane) s l ∧ gx l (-1) = x := by
  induction h with
  | base => exact ⟨[s], .base, gx_snoc [] s⟩
  | @step x r _ hr ha ih =>
    obtain ⟨l, h1, h2⟩ := ih
    have hm := List.mem_filter.mp hr
    obtain ⟨q, hq, e⟩ := usb_of hm.1 hm.2
    have e1 : q.2.1 = r.a := by rw [e]
    have e2 : q.2.2 = r.b := by rw [e]
    by_cases c : q.2.2 ∈ l
    · obtain ⟨l', k1, k2⟩ := h1.at c
      exact ⟨l', k1, k2.trans e2⟩
    · exact ⟨_, .step h1 hq (by rw [e1, ha, h2]) c, by rw [gx_snoc]; exact e2⟩
theorem rch_cn {rs : List Rd} {lane : Bool} {s e : Int} (hn : s ≠ e) : Rch (rs.filter fun r => lane || !r.e) s e ↔ Cn (usb rs lane) e [s] := by
  constructor
  · intro h
    cases h with
    | base => exact absurd rfl hn
    | @step x r h hr ha =>
      obtain ⟨l, h1, h2⟩ := rch_sp h
      have hm := List.mem_filter.mp hr
      obtain ⟨q, hq, e⟩ := usb_of hm.1 hm.2
      exact h1.cn (.here hq (by rw [show q.2.1 = r.a by rw [e], ha, h2]) (by rw [e]))
  · intro h
    have key : ∀ l, Cn (usb rs lane) e l → Rch (rs.filter fun r => lane || !r.e) s (gx l (-1)) → Rch (rs.filter fun r => lane || !r.e) s e := fun l h => by
      induction h with
      | @here seen q hq h1 h2 =>
        intro k
        obtain ⟨r, hr, hu, e⟩ := usb_in hq
        rw [← h2, show q.2.2 = r.b by rw [e]]
        exact .step k (List.mem_filter.mpr ⟨hr, hu⟩) (by rw [← h1, e])
      | @step seen q hq h1 h2 _ ih =>
        intro k
        obtain ⟨r, hr, hu, e⟩ := usb_in hq
        refine ih ?_
        rw [gx_snoc, show q.2.2 = r.b by rw [e]]
        exact .step k (List.mem_filter.mpr ⟨hr, hu⟩) (by rw [← h1, e])
    exact key _ h (by rw [show gx [s] (-1) = s from gx_snoc [] s]; exact .base)
/-- a net and wishes, some of them maybe without a way -/
structure NW (m : Int) (rs : List Rd) (ws : List Ws) : Prop where
  hm : 2 ≤ m ∧ m ≤ 6
  len : rs.length ≤ 12
  ends : ∀ r ∈ rs, (0 ≤ r.a ∧ r.a < m) ∧ (0 ≤ r.b ∧ r.b < m)
  wl : 1 ≤ ws.length ∧ ws.length ≤ 3
  each : ∀ w ∈ ws, (0 ≤ w.a ∧ w.a < m) ∧ (0 ≤ w.b ∧ w.b < m) ∧ w.a ≠ w.b ∧ m_wish_fits (eWS w) m = true
theorem NW.six {m : Int} {rs : List Rd} {ws : List Ws} (h : NW m rs ws) : ∀ r ∈ rs, (0 ≤ r.a ∧ r.a < 6) ∧ (0 ≤ r.b ∧ r.b < 6) := fun r hr => by have := h.ends r hr; have := h.hm; omega
theorem NW.w6 {m : Int} {rs : List Rd} {ws : List Ws} (h : NW m rs ws) : ∀ w ∈ ws, 0 ≤ w.a ∧ w.a < 6 := fun w hw => by have := (h.each w hw).1; have := h.hm; omega
theorem NW.lst {m : Int} {rs : List Rd} {ws : List Ws} (h : NW m rs ws) {w : Ws} (hw : w ∈ ws) : m_l_listed rs w = ((m_ways_of (m, rs) w).length : Int) := by
  rw [listed_is (by have := h.len; omega) h.six (h.w6 w hw)]
  unfold m_ways_of
  rw [ways_between_eq]
theorem NW.no {m : Int} {rs : List Rd} {ws : List Ws} (h : NW m rs ws) {w : Ws} (hw : w ∈ ws) : w.b ∈ m_reached_from (m, rs) w.a w.d ↔ ¬ m_l_listed rs w = 0 := by
  obtain ⟨R, e1, e2⟩ := net_full (net := (m, rs)) (lane := w.d) h.six (h.w6 w hw)
  rw [e1, (sortI_perm R).mem_iff, e2.mem, rch_cn (h.each w hw).2.2.1, ← dfs_some (usb_us (by have := h.len; omega) fun r hr => (h.six r hr).2) (h.w6 w hw), listed_is (by have := h.len; omega) h.six (h.w6 w hw)]
  exact ⟨fun k z => k (List.length_eq_zero_iff.mp (by omega)), fun k z => k (by rw [z]; rfl)⟩
theorem enumL_map {α : Type} [Inhabited α] (xs : List α) : enumL xs = (rng 0 xs.length).map (fun k => (k, gx xs k)) := by
  have h1 : (enumL xs).map (·.1) = rng 0 xs.length := by
    unfold enumL
    exact List.map_fst_zip (by rw [rng_len]; exact Nat.le_refl _)
  rw [← h1, List.map_map]
  conv => lhs; rw [← List.map_id (enumL xs)]
  exact List.map_congr_left fun p hp => Prod.ext rfl (enumL_gx hp).symm
theorem rng_in {n : Nat} {k : Int} (h : k ∈ rng 0 n) : 0 ≤ k ∧ k < n := by
  obtain ⟨i, hi⟩ := List.getElem?_of_mem h
  have := rng_get hi
  omega
def lack (rs : List Rd) (ws : List Ws) : List Int := (rng 0 ws.length).filter (fun a => decide (m_l_listed rs (gx ws a) = 0))
theorem lack_in {rs : List Rd} {ws : List Ws} {k : Int} (h : k ∈ lack rs ws) : (0 ≤ k ∧ k < (ws.length : Int)) ∧ m_l_listed rs (gx ws k) = 0 := ⟨rng_in (List.mem_filter.mp h).1, of_decide_eq_true (List.mem_filter.mp h).2⟩
theorem made_08 {m : Int} {rs : List Rd} {ws : List Ws} (h : NW m rs ws) : m_made_wishes (m, rs) (ws.map eWS) = match lack rs ws with
      | [] => if (10 : Int) < (ws.map (fun w => m_l_listed rs w)).sum then .error (er 5) else .ok ws
      | k :: _ => .error ⟨4, k, m_reached_from (m, rs) (gx ws k).a (gx ws k).d⟩ := by
  rw [made_typed (net := (m, rs)) h.wl (fun w hw => (h.each w hw).2.2.2)]
  have e1 : (enumL ws).find? (noWay (m, rs)) = (lack rs ws).head?.map (fun k => (k, gx ws k)) := by
    have e0 : (lack rs ws).head? = (rng 0 ws.length).find? (fun a => decide (m_l_listed rs (gx ws a) = 0)) := List.head?_filter
    rw [enumL_map, List.find?_map, e0]
    congr 1
    exact find_congr fun k hk => by
      have hw := gx_mem (xs := ws) (i := k) (by have := rng_in hk; exact ⟨by omega, this.2⟩)
      show (!decide ((gx ws k).b ∈ m_reached_from (m, rs) (gx ws k).a (gx ws k).d)) = _
      have hno := h.no hw
      by_cases c : m_l_listed rs (gx ws k) = 0
      · rw [decide_eq_true c, decide_eq_false (fun z => hno.mp z c)]; rfl
      · rw [decide_eq_false c, decide_eq_true (hno.mpr c)]; rfl
  have e2 : ws.map (fun w => ((m_ways_of (m, rs) w).length : Int)) = ws.map (fun w => m_l_listed rs w) := List.map_congr_left fun w hw => (h.lst hw).symm
  rw [e1, e2]
  cases lack rs ws <;> rfl
def m_l_asked (l_net_here : (Int × (List (T5 Int Int (Int × Int) (Int × Int) Bool)))) (l_wishes_here : (List (T4 Int Int (Int × Int) Bool))) : ((Option Er) × (Option (List (T4 Int Int (Int × Int) Bool)))) := (let l_came_1 := (none : (Option Er)); (let l_found_1 := (none : (Option (List (T4 Int Int (Int × Int) Bool)))); (let l_found_2 := (okO (m_made_wishes l_net_here (l_wishes_here.map (eT4 PyData.int PyData.int (eP PyData.int PyData.int) PyData.bool)))); (let l_came_2 := (exO (m_made_wishes l_net_here (l_wishes_here.map (eT4 PyData.int PyData.int (eP PyData.int PyData.int) PyData.bool)))); (l_came_2, l_found_2)))))
def r_l_asked (A : Nat → Addr) (xs : List PyData) (r : Res) : Prop := ∃ (l_net_here : (Int × (List (T5 Int Int (Int × Int) (Int × Int) Bool)))) (l_wishes_here : (List (T4 Int Int (Int × Int) Bool))), (2 ≤ l_net_here.1 ∧ l_net_here.1 ≤ 6) ∧ (l_net_here.2.length ≤ 13) ∧ (∀ r ∈ l_net_here.2, (0 ≤ r.a ∧ r.a < 6) ∧ (0 ≤ r.b ∧ r.b < 6)) ∧ xs = [((eP PyData.int (eL (eT5 PyData.int PyData.int (eP PyData.int PyData.int) (eP PyData.int PyData.int) PyData.bool))) l_net_here), ((eL (eT4 PyData.int PyData.int (eP PyData.int PyData.int) PyData.bool)) l_wishes_here)] ∧ r = .v ((eH (eO (eX A)) (eO (eL (eT4 PyData.int PyData.int (eP PyData.int PyData.int) PyData.bool)))) (m_l_asked l_net_here l_wishes_here))
abbrev N_l_asked : List Str := ["_law_net_here", "_law_wishes_here", "_law_came", "_law_found", "error"]
theorem sc_l_asked : FnScope N_l_asked ["_law_net_here", "_law_wishes_here"] (defScope s_l_asked) := ⟨rfl, rfl, rfl, by decide +kernel, rfl, by decide +kernel, by decide +kernel⟩
theorem ok_l_asked (F : Def K mg "_law_asked" s_l_asked ["_law_net_here", "_law_wishes_here"]) (T : Txt K mg A) (c_made_wishes : Cal P w K mg base "made_wishes" 2 (r_made_wishes A) 5) : Cal P w K mg base "_law_asked" 2 (r_l_asked A) 6 := by
  refine cal_ok F sc_l_asked rfl fun fa cdv AA outer ss HH EE X hX C hr xs r hl hR => ?_
  obtain ⟨l_net_here, l_wishes_here, pre_0, pre_1, pre_2, rfl, rfl⟩ := hR
  subst hX
  show DSs _ _ _ [.v ((eP PyData.int (eL (eT5 PyData.int PyData.int (eP PyData.int PyData.int) (eP PyData.int PyData.int) PyData.bool))) l_net_here), .v ((eL (eT4 PyData.int PyData.int (eP PyData.int PyData.int) PyData.bool)) l_wishes_here), .no, .no, .no] _
  obtain ⟨l_came_1, e_l_came_1⟩ : ∃ z : (Option Er), z = (none : (Option Er)) := ⟨_, rfl⟩
  refine ds_then (E' := [.v ((eP PyData.int (eL (eT5 PyData.int PyData.int (eP PyData.int PyData.int) (eP PyData.int PyData.int) PyData.bool))) l_net_here), .v ((eL (eT4 PyData.int PyData.int (eP PyData.int PyData.int) PyData.bool)) l_wishes_here), .v ((eO (eX A)) l_came_1), .no, .no]) (ds_set (x := ((eO (eX A)) l_came_1)) (ln 2 sc_l_asked.nd) (deC (by subst e_l_came_1; rfl) de_non)) ?_
  obtain ⟨l_found_1, e_l_found_1⟩ : ∃ z : (Option (List (T4 Int Int (Int × Int) Bool))), z = (none : (Option (List (T4 Int Int (Int × Int) Bool)))) := ⟨_, rfl⟩
  refine ds_then (E' := [.v ((eP PyData.int (eL (eT5 PyData.int PyData.int (eP PyData.int PyData.int) (eP PyData.int PyData.int) PyData.bool))) l_net_here), .v ((eL (eT4 PyData.int PyData.int (eP PyData.int PyData.int) PyData.bool)) l_wishes_here), .v ((eO (eX A)) l_came_1), .v ((eO (eL (eT4 PyData.int PyData.int (eP PyData.int PyData.int) PyData.bool))) l_found_1), .no]) (ds_set (x := ((eO (eL (eT4 PyData.int PyData.int (eP PyData.int PyData.int) PyData.bool))) l_found_1)) (ln 3 sc_l_asked.nd) (deC (by subst e_l_found_1; rfl) de_non)) ?_
  obtain ⟨l_came_2, e_l_came_2⟩ : ∃ z : (Option Er), z = (exO (m_made_wishes l_net_here (l_wishes_here.map (eT4 PyData.int PyData.int (eP PyData.int PyData.int) PyData.bool)))) := ⟨_, rfl⟩
  obtain ⟨l_found_2, e_l_found_2⟩ : ∃ z : (Option (List (T4 Int Int (Int × Int) Bool))), z = (okO (m_made_wishes l_net_here (l_wishes_here.map (eT4 PyData.int PyData.int (eP PyData.int PyData.int) PyData.bool)))) := ⟨_, rfl⟩
  refine ds_then (E' := [.v ((eP PyData.int (eL (eT5 PyData.int PyData.int (eP PyData.int PyData.int) (eP PyData.int PyData.int) PyData.bool))) l_net_here), .v ((eL (eT4 PyData.int PyData.int (eP PyData.int PyData.int) PyData.bool)) l_wishes_here), .v ((eO (eX A)) l_came_2), .v ((eO (eL (eT4 PyData.int PyData.int (eP PyData.int PyData.int) PyData.bool))) l_found_2), .no]) (ds_tryV (A := A) (B := fun o => match (m_made_wishes l_net_here (l_wishes_here.map (eT4 PyData.int PyData.int (eP PyData.int PyData.int) PyData.bool))) with | .ok v => o = .nx [.v ((eP PyData.int (eL (eT5 PyData.int PyData.int (eP PyData.int PyData.int) (eP PyData.int PyData.int) PyData.bool))) l_net_here), .v ((eL (eT4 PyData.int PyData.int (eP PyData.int PyData.int) PyData.bool)) l_wishes_here), .v ((eO (eX A)) l_came_1), .v ((eL (eT4 PyData.int PyData.int (eP PyData.int PyData.int) PyData.bool)) v), .no] | .error em => o = .ex (A em.c) (flE em) [.v ((eP PyData.int (eL (eT5 PyData.int PyData.int (eP PyData.int PyData.int) (eP PyData.int PyData.int) PyData.bool))) l_net_here), .v ((eL (eT4 PyData.int PyData.int (eP PyData.int PyData.int) PyData.bool)) l_wishes_here), .v ((eO (eX A)) l_came_1), .v ((eO (eL (eT4 PyData.int PyData.int (eP PyData.int PyData.int) PyData.bool))) l_found_1), .no]) C (ln 4 sc_l_asked.nd) (ln 2 sc_l_asked.nd) rfl rfl rfl ⟨rfl, by decide, .inl T.g_RoadError⟩ rfl (by decide) (Nat.le_of_ble_eq_true rfl) (Nat.le_of_ble_eq_true rfl) (fun _ _ _ _ => pv 4) (fun _ _ _ => rfl) (fun W1 pn1 xe1 C1 => ?_) (fun o ho => ?_)) ?_
  · cases hg : (m_made_wishes l_net_here (l_wishes_here.map (eT4 PyData.int PyData.int (eP PyData.int PyData.int) PyData.bool))) with
    | ok v => exact ds_last (DS.imp (ds_set (E' := [.v ((eP PyData.int (eL (eT5 PyData.int PyData.int (eP PyData.int PyData.int) (eP PyData.int PyData.int) PyData.bool))) l_net_here), .v ((eL (eT4 PyData.int PyData.int (eP PyData.int PyData.int) PyData.bool)) l_wishes_here), .v ((eO (eX A)) l_came_1), .v ((eL (eT4 PyData.int PyData.int (eP PyData.int PyData.int) PyData.bool)) v), .no]) (x := ((eL (eT4 PyData.int PyData.int (eP PyData.int PyData.int) PyData.bool)) v)) (ln 3 sc_l_asked.nd) (DN.toL (f := (eT4 PyData.int PyData.int (eP PyData.int PyData.int) PyData.bool)) (xs := v) (dn_call (f := "made_wishes") (t := (oL (eT4 PyData.int PyData.int (eP PyData.int PyData.int) PyData.bool)) v) (c_made_wishes.at hr) rfl (da_cons (de_v 0 (pv 0)) (da_cons (deC (eL_any (eT4 PyData.int PyData.int (eP PyData.int PyData.int) PyData.bool) l_wishes_here) (de_v 1 (pv 1))) da_nil)) ⟨l_net_here, (l_wishes_here.map (eT4 PyData.int PyData.int (eP PyData.int PyData.int) PyData.bool)), (by first | omega | assumption | (intro x hx; obtain ⟨w, _, rfl⟩ := List.mem_map.mp hx; rfl) | decide), (by first | omega | assumption | (intro x hx; obtain ⟨w, _, rfl⟩ := List.mem_map.mp hx; rfl) | decide), (by first | omega | assumption | (intro x hx; obtain ⟨w, _, rfl⟩ := List.mem_map.mp hx; rfl) | decide), (by first | omega | assumption | (intro x hx; obtain ⟨w, _, rfl⟩ := List.mem_map.mp hx; rfl) | decide), rfl, by rw [hg]; rfl⟩)) (P := fun _ => False)) fun o h => by cases o <;> first | exact congrArg _ h | exact h.elim)
    | error em => show DSs _ _ _ _ (fun o => o = Out.ex (A em.c) (flE em) [.v ((eP PyData.int (eL (eT5 PyData.int PyData.int (eP PyData.int PyData.int) (eP PyData.int PyData.int) PyData.bool))) l_net_here), .v ((eL (eT4 PyData.int PyData.int (eP PyData.int PyData.int) PyData.bool)) l_wishes_here), .v ((eO (eX A)) l_came_1), .v ((eO (eL (eT4 PyData.int PyData.int (eP PyData.int PyData.int) PyData.bool))) l_found_1), .no]); exact ds_setE (X := Cx.tr _ pn1 xe1) (E := [.v ((eP PyData.int (eL (eT5 PyData.int PyData.int (eP PyData.int PyData.int) (eP PyData.int PyData.int) PyData.bool))) l_net_here), .v ((eL (eT4 PyData.int PyData.int (eP PyData.int PyData.int) PyData.bool)) l_wishes_here), .v ((eO (eX A)) l_came_1), .v ((eO (eL (eT4 PyData.int PyData.int (eP PyData.int PyData.int) PyData.bool))) l_found_1), .no]) (P := fun o => o = Out.ex (A em.c) (flE em) [.v ((eP PyData.int (eL (eT5 PyData.int PyData.int (eP PyData.int PyData.int) (eP PyData.int PyData.int) PyData.bool))) l_net_here), .v ((eL (eT4 PyData.int PyData.int (eP PyData.int PyData.int) PyData.bool)) l_wishes_here), .v ((eO (eX A)) l_came_1), .v ((eO (eL (eT4 PyData.int PyData.int (eP PyData.int PyData.int) PyData.bool))) l_found_1), .no]) (f := "made_wishes") (ln 3 sc_l_asked.nd) C1 (c_made_wishes.at hr) rfl (da_cons (de_v 0 (pv 0)) (da_cons (deC (eL_any (eT4 PyData.int PyData.int (eP PyData.int PyData.int) PyData.bool) l_wishes_here) (de_v 1 (pv 1))) da_nil)) ⟨l_net_here, (l_wishes_here.map (eT4 PyData.int PyData.int (eP PyData.int PyData.int) PyData.bool)), (by first | omega | assumption | (intro x hx; obtain ⟨w, _, rfl⟩ := List.mem_map.mp hx; rfl) | decide), (by first | omega | assumption | (intro x hx; obtain ⟨w, _, rfl⟩ := List.mem_map.mp hx; rfl) | decide), (by first | omega | assumption | (intro x hx; obtain ⟨w, _, rfl⟩ := List.mem_map.mp hx; rfl) | decide), (by first | omega | assumption | (intro x hx; obtain ⟨w, _, rfl⟩ := List.mem_map.mp hx; rfl) | decide), rfl, by rw [hg]; rfl⟩ ⟨em, rfl⟩ rfl
  · cases hg : (m_made_wishes l_net_here (l_wishes_here.map (eT4 PyData.int PyData.int (eP PyData.int PyData.int) PyData.bool))) with
    | ok v => rw [hg] at ho; cases (show o = _ from ho); show _ = _; (subst e_l_came_1 e_l_found_1 e_l_came_2 e_l_found_2); rw [hg]; rfl
    | error em => have hcd : Cd em.c := made_codes hg; rw [hg] at ho; cases (show o = _ from ho); exact ⟨em, rfl, rfl, rfl, T.xm em.c hcd, T.ek em.c hcd, by show _ = _; (subst e_l_came_1 e_l_found_1 e_l_came_2 e_l_found_2); rw [hg]; rfl⟩
  exact ds_retD (de_hl (f := (eO (eX A))) (g := (eO (eL (eT4 PyData.int PyData.int (eP PyData.int PyData.int) PyData.bool)))) (x := l_came_2) (y := l_found_2) (da_cons (de_v 2 (pv 2)) (da_cons (de_v 3 (pv 3)) da_nil))) (.inl (by subst e_l_came_1 e_l_found_1 e_l_came_2 e_l_found_2; simp only [m_l_asked, cond_true, cond_false, Bool.not_true, Bool.not_false, goM, goN]; try rfl))
def m_l_only (l_came : Er) (l_kind : Int) : Bool := (let l_kinds_1 := ([(decide (l_came.c = 4)), (decide (l_came.c = 5)), (decide (l_came.c = 3)), (decide (l_came.c = 2))] : (List Bool)); (let l_kinds_2 := (l_kinds_1 ++ ([(decide (l_came.c = 1)), (decide (l_came.c = 6)), (decide (l_came.c = 7))] : (List Bool))); (let l_kinds_3 := (l_kinds_2 ++ ([(decide (l_came.c = 8)), (decide (l_came.c = 9))] : (List Bool))); ((decide (((List.count true l_kinds_3 : Nat) : Int) = (1 : Int))) && ((gx l_kinds_3 l_kind) && true)))))
def r_l_only (A : Nat → Addr) (xs : List PyData) (r : Res) : Prop := ∃ (l_came : Er) (l_kind : Int), (Cd l_came.c) ∧ (0 ≤ l_kind ∧ l_kind ≤ 1) ∧ xs = [((eX A) l_came), (.int l_kind)] ∧ r = .v (.bool (m_l_only l_came l_kind))
abbrev N_l_only : List Str := ["_law_came", "_law_kind", "_law_kinds"]
theorem sc_l_only : FnScope N_l_only ["_law_came", "_law_kind"] (defScope s_l_only) := ⟨rfl, rfl, rfl, by decide +kernel, rfl, by decide +kernel, by decide +kernel⟩
theorem ok_l_only (F : Def K mg "_law_only" s_l_only ["_law_came", "_law_kind"]) (T : Txt K mg A)  : Cal P w K mg base "_law_only" 2 (r_l_only A) 1 := by
  refine cal_ok F sc_l_only rfl fun fa cdv AA outer ss HH EE X hX C hr xs r hl hR => ?_
  obtain ⟨l_came, l_kind, pre_0, pre_1, rfl, rfl⟩ := hR
  subst hX
  show DSs _ _ _ [.v ((eX A) l_came), .v (.int l_kind), .no] _
  obtain ⟨l_kinds_1, e_l_kinds_1⟩ : ∃ z : (List Bool), z = ([(decide (l_came.c = 4)), (decide (l_came.c = 5)), (decide (l_came.c = 3)), (decide (l_came.c = 2))] : (List Bool)) := ⟨_, rfl⟩
  refine ds_then (E' := [.v ((eX A) l_came), .v (.int l_kind), .v ((eL PyData.bool) l_kinds_1)]) (ds_set (x := ((eL PyData.bool) l_kinds_1)) (ln 2 sc_l_only.nd) (deC (by subst e_l_kinds_1; rfl) (DN.toL (f := PyData.bool) (xs := ([(decide (l_came.c = 4)), (decide (l_came.c = 5)), (decide (l_came.c = 3)), (decide (l_came.c = 2))] : (List Bool))) (dn_lst (da_cons (de_isX (A := A) (er := l_came) (T.kx_4 l_came.c (by exact pre_0)) (clsn_own rfl T.g_NoWay) (de_v 0 (pv 0)) rfl T.b_isinstance) (da_cons (de_isX (A := A) (er := l_came) (T.kx_5 l_came.c (by exact pre_0)) (clsn_own rfl T.g_TooMany) (de_v 0 (pv 0)) rfl T.b_isinstance) (da_cons (de_isX (A := A) (er := l_came) (T.kx_3 l_came.c (by exact pre_0)) (clsn_own rfl T.g_NoWish) (de_v 0 (pv 0)) rfl T.b_isinstance) (da_cons (de_isX (A := A) (er := l_came) (T.kx_2 l_came.c (by exact pre_0)) (clsn_own rfl T.g_NoNet) (de_v 0 (pv 0)) rfl T.b_isinstance) da_nil)))))))) ?_
  have hsl_l_kinds_1 := congrArg List.length e_l_kinds_1
  simp only [List.length_append, List.length_cons, List.length_nil] at hsl_l_kinds_1
  obtain ⟨l_kinds_2, e_l_kinds_2⟩ : ∃ z : (List Bool), z = (l_kinds_1 ++ ([(decide (l_came.c = 1)), (decide (l_came.c = 6)), (decide (l_came.c = 7))] : (List Bool))) := ⟨_, rfl⟩
  refine ds_then (E' := [.v ((eX A) l_came), .v (.int l_kind), .v ((eL PyData.bool) l_kinds_2)]) (ds_set (x := ((eL PyData.bool) l_kinds_2)) (ln 2 sc_l_only.nd) (deC (by subst e_l_kinds_2; rfl) (DN.toL (f := PyData.bool) (xs := (l_kinds_1 ++ ([(decide (l_came.c = 1)), (decide (l_came.c = 6)), (decide (l_came.c = 7))] : (List Bool)))) (dn_catL (de_v 2 (pv 2)) (DN.toL (f := PyData.bool) (xs := ([(decide (l_came.c = 1)), (decide (l_came.c = 6)), (decide (l_came.c = 7))] : (List Bool))) (dn_lst (da_cons (de_isX (A := A) (er := l_came) (T.kx_1 l_came.c (by exact pre_0)) (clsn_own rfl T.g_NoNumber) (de_v 0 (pv 0)) rfl T.b_isinstance) (da_cons (de_isX (A := A) (er := l_came) (T.kx_6 l_came.c (by exact pre_0)) (clsn_own rfl T.g_NoShare) (de_v 0 (pv 0)) rfl T.b_isinstance) (da_cons (de_isX (A := A) (er := l_came) (T.kx_7 l_came.c (by exact pre_0)) (clsn_own rfl T.g_NoStep) (de_v 0 (pv 0)) rfl T.b_isinstance) da_nil))))) (by rw [sizeLine_eq]; first | omega | (simp only [List.length_cons, List.length_nil]; omega) | (simp only [List.length_append, List.length_cons, List.length_nil, List.length_map, List.length_replicate]; omega)))))) ?_
  have hsl_l_kinds_2 := congrArg List.length e_l_kinds_2
  simp only [List.length_append, List.length_cons, List.length_nil] at hsl_l_kinds_2
  obtain ⟨l_kinds_3, e_l_kinds_3⟩ : ∃ z : (List Bool), z = (l_kinds_2 ++ ([(decide (l_came.c = 8)), (decide (l_came.c = 9))] : (List Bool))) := ⟨_, rfl⟩
  refine ds_then (E' := [.v ((eX A) l_came), .v (.int l_kind), .v ((eL PyData.bool) l_kinds_3)]) (ds_set (x := ((eL PyData.bool) l_kinds_3)) (ln 2 sc_l_only.nd) (deC (by subst e_l_kinds_3; rfl) (DN.toL (f := PyData.bool) (xs := (l_kinds_2 ++ ([(decide (l_came.c = 8)), (decide (l_came.c = 9))] : (List Bool)))) (dn_catL (de_v 2 (pv 2)) (DN.toL (f := PyData.bool) (xs := ([(decide (l_came.c = 8)), (decide (l_came.c = 9))] : (List Bool))) (dn_lst (da_cons (de_isX (A := A) (er := l_came) (T.kx_8 l_came.c (by exact pre_0)) (clsn_own rfl T.g_NoSuch) (de_v 0 (pv 0)) rfl T.b_isinstance) (da_cons (de_isX (A := A) (er := l_came) (T.kx_9 l_came.c (by exact pre_0)) (clsn_own rfl T.g_NoText) (de_v 0 (pv 0)) rfl T.b_isinstance) da_nil)))) (by rw [sizeLine_eq]; first | omega | (simp only [List.length_cons, List.length_nil]; omega) | (simp only [List.length_append, List.length_cons, List.length_nil, List.length_map, List.length_replicate]; omega)))))) ?_
  have hsl_l_kinds_3 := congrArg List.length e_l_kinds_3
  simp only [List.length_append, List.length_cons, List.length_nil] at hsl_l_kinds_3
  exact ds_retD (de_and (de_eqI (de_countB (de_v 2 (pv 2)) de_bl) de_int) (fun h_2 => by have q := h_2; (try simp only [eqD_t, eqD_f, decide_eq_true_eq, decide_eq_false_iff_not, Bool.not_eq_true', Bool.not_eq_false', Bool.and_eq_true, Bool.or_eq_true, Bool.and_eq_false_iff, Bool.or_eq_false_iff, Bool.not_true, Bool.not_false, Bool.not_not, Decidable.not_not] at q); exact (de_and (de_ixL (de_v 2 (pv 2)) (de_v 1 (pv 1)) (by first | exact ⟨by omega, by omega⟩ | (first | exact ⟨by omega, by omega⟩ | exact inR_mod (by omega) | (unfold inR; simp only [List.length_map, List.length_append, List.length_cons, List.length_nil, List.length_replicate, rng_len, sx_len]; omega)))) (fun h_1 => by have q := h_1; (try simp only [eqD_t, eqD_f, decide_eq_true_eq, decide_eq_false_iff_not, Bool.not_eq_true', Bool.not_eq_false', Bool.and_eq_true, Bool.or_eq_true, Bool.and_eq_false_iff, Bool.or_eq_false_iff, Bool.not_true, Bool.not_false, Bool.not_not, Decidable.not_not] at q); exact (de_one (de_isX (A := A) (er := l_came) (T.kv l_came.c (by exact pre_0)) (clsn_ty rfl T.b_ValueError) (de_v 0 (pv 0)) rfl T.b_isinstance)))))) (.inl (by subst e_l_kinds_1 e_l_kinds_2 e_l_kinds_3; simp only [m_l_only, cond_true, cond_false, Bool.not_true, Bool.not_false, goM, goN]; try rfl))
/-- what is told of a net and wishes -/
structure Told (rs : List Rd) (ws : List Ws) (t : Option Er × Option (List Ws)) : Prop where
  way : ∀ k L, lack rs ws = k :: L → ∃ R, t.1 = some ⟨4, k, R⟩ ∧ m_l_reached rs (gx ws k) R = true
  many : lack rs ws = [] → (10 : Int) < (ws.map (fun w => m_l_listed rs w)).sum → t.1 = some (er 5)
  ok : lack rs ws = [] → ¬ (10 : Int) < (ws.map (fun w => m_l_listed rs w)).sum → t = (none, some ws)
theorem asked_told {m : Int} {rs : List Rd} {ws : List Ws} (h : NW m rs ws) : Told rs ws (m_l_asked (m, rs) ws) := by
  have ha : m_l_asked (m, rs) ws = (exO (m_made_wishes (m, rs) (ws.map eWS)), okO (m_made_wishes (m, rs) (ws.map eWS))) := rfl
  rw [ha, made_08 h]
  refine ⟨fun k L e => ?_, fun e c => ?_, fun e c => ?_⟩
  · rw [e]
    have hk := lack_in (rs := rs) (ws := ws) (k := k) (by rw [e]; exact List.mem_cons_self)
    have hw := gx_mem (xs := ws) (i := k) ⟨by omega, hk.1.2⟩
    obtain ⟨R, e1, e2⟩ := net_full (net := (m, rs)) (lane := (gx ws k).d) h.six (h.w6 _ hw)
    refine ⟨_, rfl, ?_⟩
    rw [e1]
    exact reached_true h.six (h.w6 _ hw) e2 (fun z => (h.no hw).mp (by rw [e1]; exact (sortI_perm R).mem_iff.mpr z) hk.2)
  · rw [e]
    show exO (if _ then _ else _) = _
    rw [if_pos c]; rfl
  · rw [e]
    show (exO (if _ then _ else _), okO (if _ then _ else _)) = _
    rw [if_neg c]; rfl
theorem Told.none_f {rs : List Rd} {ws : List Ws} {t : Option Er × Option (List Ws)} (h : Told rs ws t) (hl : ¬ lack rs ws = []) : ∃ k R, (0 ≤ k ∧ k < (ws.length : Int)) ∧ t.1 = some ⟨4, k, R⟩ := by
  cases q : lack rs ws with
  | nil => exact absurd q hl
  | cons k L =>
    obtain ⟨R, e, _⟩ := h.way k L q
    exact ⟨k, R, (lack_in (by rw [q]; exact List.mem_cons_self)).1, e⟩
theorem Told.cd {rs : List Rd} {ws : List Ws} {t : Option Er × Option (List Ws)} (h : Told rs ws t) (hn : t.1.isNone = false) : Cd (t.1.getD default).c := by
  cases q : lack rs ws with
  | cons k L =>
    obtain ⟨R, e, _⟩ := h.way k L q
    rw [e]; exact .inr (.inl rfl)
  | nil =>
    by_cases c : (10 : Int) < (ws.map (fun w => m_l_listed rs w)).sum
    · rw [h.many q c]; exact .inr (.inr rfl)
    · rw [h.ok q c] at hn; cases hn
theorem Told.some {rs : List Rd} {ws : List Ws} {t : Option Er × Option (List Ws)} (h : Told rs ws t) (hn : t.1.isNone = true) : t.2.isNone = false := by
  cases q : lack rs ws with
  | cons k L =>
    obtain ⟨R, e, _⟩ := h.way k L q
    rw [e] at hn; cases hn
  | nil =>
    by_cases c : (10 : Int) < (ws.map (fun w => m_l_listed rs w)).sum
    · rw [h.many q c] at hn; cases hn
    · rw [h.ok q c]; rfl
theorem lack_eq (rs : List Rd) (ws : List Ws) : ((rng 0 (ws.length : Int).toNat).filter (fun (a_1 : Int) => (decide ((m_l_listed rs (gx ws a_1)) = (0 : Int))))).map (fun (a_1 : Int) => a_1) = lack rs ws := by
  rw [List.map_id']; rfl
def m_l_good (l_told : ((Option Er) × (Option (List (T4 Int Int (Int × Int) Bool))))) (l_roads : (List (T5 Int Int (Int × Int) (Int × Int) Bool))) (l_wishes_here : (List (T4 Int Int (Int × Int) Bool))) : Bool := (let l_lacking_1 := (((rng 0 (l_wishes_here.length : Int).toNat).filter (fun (a_1 : Int) => (decide ((m_l_listed l_roads (gx l_wishes_here a_1)) = (0 : Int))))).map (fun (a_1 : Int) => a_1)); (bif (!eqD l_lacking_1 ([] : (List Int))) then (bif ((l_told.1.isNone) || ((!(m_l_only (l_told.1.getD default) (0 : Int))) || ((!(m_l_whole (.int (l_told.1.getD default).n))) || (!decide ((l_told.1.getD default).n = (gx l_lacking_1 (0 : Int))))))) then false else (m_l_reached l_roads (gx l_wishes_here ((l_told.1.getD default).n)) ((l_told.1.getD default).r))) else (bif (decide ((10 : Int) < ((l_wishes_here.map (fun (a_2 : (T4 Int Int (Int × Int) Bool)) => (m_l_listed l_roads a_2))).sum))) then ((!l_told.1.isNone) && (m_l_only (l_told.1.getD default) (1 : Int))) else ((l_told.1.isNone) && ((isList ((eO (eL (eT4 PyData.int PyData.int (eP PyData.int PyData.int) PyData.bool))) l_told.2)) && (eqD (l_told.2.getD default) l_wishes_here))))))
def r_l_good (A : Nat → Addr) (xs : List PyData) (r : Res) : Prop := ∃ (l_told : ((Option Er) × (Option (List (T4 Int Int (Int × Int) Bool))))) (l_roads : (List (T5 Int Int (Int × Int) (Int × Int) Bool))) (l_wishes_here : (List (T4 Int Int (Int × Int) Bool))), (∃ m, NW m l_roads l_wishes_here) ∧ (Told l_roads l_wishes_here l_told) ∧ xs = [((eH (eO (eX A)) (eO (eL (eT4 PyData.int PyData.int (eP PyData.int PyData.int) PyData.bool)))) l_told), ((eL (eT5 PyData.int PyData.int (eP PyData.int PyData.int) (eP PyData.int PyData.int) PyData.bool)) l_roads), ((eL (eT4 PyData.int PyData.int (eP PyData.int PyData.int) PyData.bool)) l_wishes_here)] ∧ r = .v (.bool (m_l_good l_told l_roads l_wishes_here))
abbrev N_l_good : List Str := ["_law_told", "_law_roads", "_law_wishes_here", "_law_came", "_law_found", "_law_lacking", "_law_k", "_law_wish"]
theorem sc_l_good : FnScope N_l_good ["_law_told", "_law_roads", "_law_wishes_here"] (defScope s_l_good) := ⟨rfl, rfl, rfl, by decide +kernel, rfl, by decide +kernel, by decide +kernel⟩
theorem ok_l_good (F : Def K mg "_law_good" s_l_good ["_law_told", "_law_roads", "_law_wishes_here"]) (T : Txt K mg A) (c_l_whole : Cal P w K mg base "_law_whole" 1 r_l_whole 1) (c_l_listed : Cal P w K mg base "_law_listed" 2 r_l_listed 1) (c_l_reached : Cal P w K mg base "_law_reached" 3 r_l_reached 2) (c_l_only : Cal P w K mg base "_law_only" 2 (r_l_only A) 1) : Cal P w K mg base "_law_good" 3 (r_l_good A) 3 := by
  refine cal_ok F sc_l_good rfl fun fa cdv AA outer ss HH EE X hX C hr xs r hl hR => ?_
  obtain ⟨l_told, l_roads, l_wishes_here, pre_0, pre_1, rfl, rfl⟩ := hR
  subst hX
  show DSs _ _ _ [.v ((eH (eO (eX A)) (eO (eL (eT4 PyData.int PyData.int (eP PyData.int PyData.int) PyData.bool)))) l_told), .v ((eL (eT5 PyData.int PyData.int (eP PyData.int PyData.int) (eP PyData.int PyData.int) PyData.bool)) l_roads), .v ((eL (eT4 PyData.int PyData.int (eP PyData.int PyData.int) PyData.bool)) l_wishes_here), .no, .no, .no, .no, .no] _
  obtain ⟨mm, hnw⟩ := pre_0
  have hwl := hnw.wl
  have hrl := hnw.len
  have hr6 := hnw.six
  have hw6 := hnw.w6
  refine ds_then (E' := [.v ((eH (eO (eX A)) (eO (eL (eT4 PyData.int PyData.int (eP PyData.int PyData.int) PyData.bool)))) l_told), .v ((eL (eT5 PyData.int PyData.int (eP PyData.int PyData.int) (eP PyData.int PyData.int) PyData.bool)) l_roads), .v ((eL (eT4 PyData.int PyData.int (eP PyData.int PyData.int) PyData.bool)) l_wishes_here), .v ((eO (eX A)) l_told.1), .v ((eO (eL (eT4 PyData.int PyData.int (eP PyData.int PyData.int) PyData.bool))) l_told.2), .no, .no, .no]) (ds_unpL (x := ((eO (eX A)) l_told.1)) (y := ((eO (eL (eT4 PyData.int PyData.int (eP PyData.int PyData.int) PyData.bool))) l_told.2)) C (ln 3 sc_l_good.nd) (ln 4 sc_l_good.nd) (by decide) (deC (by rfl) (de_v 0 (pv 0)))) ?_
  obtain ⟨l_lacking_1, e_l_lacking_1⟩ : ∃ z : (List Int), z = (((rng 0 (l_wishes_here.length : Int).toNat).filter (fun (a_1 : Int) => (decide ((m_l_listed l_roads (gx l_wishes_here a_1)) = (0 : Int))))).map (fun (a_1 : Int) => a_1)) := ⟨_, rfl⟩
  refine ds_then (E' := [.v ((eH (eO (eX A)) (eO (eL (eT4 PyData.int PyData.int (eP PyData.int PyData.int) PyData.bool)))) l_told), .v ((eL (eT5 PyData.int PyData.int (eP PyData.int PyData.int) (eP PyData.int PyData.int) PyData.bool)) l_roads), .v ((eL (eT4 PyData.int PyData.int (eP PyData.int PyData.int) PyData.bool)) l_wishes_here), .v ((eO (eX A)) l_told.1), .v ((eO (eL (eT4 PyData.int PyData.int (eP PyData.int PyData.int) PyData.bool))) l_told.2), .o (oL PyData.int (((rng 0 (l_wishes_here.length : Int).toNat).filter (fun (a_1 : Int) => (decide ((m_l_listed l_roads (gx l_wishes_here a_1)) = (0 : Int))))).map (fun (a_1 : Int) => a_1))), .no, .no]) (ds_setLcIf (ea := PyData.int) (eb := PyData.int) (items := (rng 0 (l_wishes_here.length : Int).toNat)) (fun (a_1 : Int) => (decide ((m_l_listed l_roads (gx l_wishes_here a_1)) = (0 : Int)))) (fun (a_1 : Int) => a_1) (ln 5 sc_l_good.nd) rfl (sw_true rfl rfl rfl (by decide +kernel)) rfl (di_range1L (de_lenL (de_v 2 (pv 2)) rfl T.b_len) ⟨by omega, by omega⟩ rfl T.b_range) (blkOk_by (N := N_l_good) (sc := defScope s_l_good) (own := [("_law_k", 6)]) (by decide +kernel)) (fun _ _ _ _ _ => (tg_name (ln 6 sc_l_good.nd))) (by rw [sizeLine_eq]; first | omega | (simp only [List.length_map, List.length_append, List.length_cons, List.length_nil, List.length_zip, rng_len]; omega)) (fun a_1 h_a_1 => ⟨[.v ((eH (eO (eX A)) (eO (eL (eT4 PyData.int PyData.int (eP PyData.int PyData.int) PyData.bool)))) l_told), .v ((eL (eT5 PyData.int PyData.int (eP PyData.int PyData.int) (eP PyData.int PyData.int) PyData.bool)) l_roads), .v ((eL (eT4 PyData.int PyData.int (eP PyData.int PyData.int) PyData.bool)) l_wishes_here), .v ((eO (eX A)) l_told.1), .v ((eO (eL (eT4 PyData.int PyData.int (eP PyData.int PyData.int) PyData.bool))) l_told.2), .no, .v (.int a_1), .no], rfl, fun _ _ _ _ _ => ⟨(dt_eqI (de_call (f := "_law_listed") (c_l_listed.at hr) rfl (da_cons (de_v 1 (pv 1)) (da_cons (de_ixL (f := (eT4 PyData.int PyData.int (eP PyData.int PyData.int) PyData.bool)) (xs := l_wishes_here) (i := a_1) (de_v 2 (pv 2)) (de_v 6 (pv 6)) (by first | first | exact ⟨by omega, by omega⟩ | (have := rng_in h_a_1; exact ⟨by omega, by omega⟩) | (have := hnr q_c_1; exact ⟨by omega, by omega⟩) | (have := List.length_pos_iff.mpr q_c_1; exact ⟨by omega, by omega⟩) | (first | exact ⟨by omega, by omega⟩ | exact inR_mod (by omega) | (unfold inR; simp only [List.length_map, List.length_append, List.length_cons, List.length_nil, List.length_replicate, rng_len, sx_len]; omega)))) da_nil)) ⟨l_roads, (gx l_wishes_here a_1), (by first | omega | assumption | exact hr6 | exact hw6 _ (by assumption) | exact hw6 _ (gx_mem (by have := rng_in h_a_1; exact ⟨by omega, by omega⟩)) | exact pre_1.cd (hnn q_c_1) | exact pre_1.cd (by assumption) | exact hw6 _ (gx_mem (by have := hnr q_c_1; exact ⟨by omega, by omega⟩)) | decide), (by first | omega | assumption | exact hr6 | exact hw6 _ (by assumption) | exact hw6 _ (gx_mem (by have := rng_in h_a_1; exact ⟨by omega, by omega⟩)) | exact pre_1.cd (hnn q_c_1) | exact pre_1.cd (by assumption) | exact hw6 _ (gx_mem (by have := hnr q_c_1; exact ⟨by omega, by omega⟩)) | decide), (by first | omega | assumption | exact hr6 | exact hw6 _ (by assumption) | exact hw6 _ (gx_mem (by have := rng_in h_a_1; exact ⟨by omega, by omega⟩)) | exact pre_1.cd (hnn q_c_1) | exact pre_1.cd (by assumption) | exact hw6 _ (gx_mem (by have := hnr q_c_1; exact ⟨by omega, by omega⟩)) | decide), rfl, rfl⟩) de_int), fun _ => (de_v 6 (pv 6))⟩⟩)) ?_
  rw [← e_l_lacking_1]
  refine ds_freezeL 5 (E' := [.v ((eH (eO (eX A)) (eO (eL (eT4 PyData.int PyData.int (eP PyData.int PyData.int) PyData.bool)))) l_told), .v ((eL (eT5 PyData.int PyData.int (eP PyData.int PyData.int) (eP PyData.int PyData.int) PyData.bool)) l_roads), .v ((eL (eT4 PyData.int PyData.int (eP PyData.int PyData.int) PyData.bool)) l_wishes_here), .v ((eO (eX A)) l_told.1), .v ((eO (eL (eT4 PyData.int PyData.int (eP PyData.int PyData.int) PyData.bool))) l_told.2), .v ((eL PyData.int) l_lacking_1), .no, .no]) rfl rfl ?_
  have hlk : l_lacking_1 = lack l_roads l_wishes_here := by rw [e_l_lacking_1]; exact lack_eq _ _
  have hn1 : ¬ l_lacking_1 = [] → ∃ k R, (0 ≤ k ∧ k < (l_wishes_here.length : Int)) ∧ l_told.1 = some ⟨4, k, R⟩ := by rw [hlk]; exact pre_1.none_f
  have hnn : ¬ l_lacking_1 = [] → l_told.1.isNone = false := fun z => by obtain ⟨k, R, _, e⟩ := hn1 z; rw [e]; rfl
  have hn4 : ¬ l_lacking_1 = [] → (l_told.1.getD default).c = 4 := fun z => by obtain ⟨k, R, _, e⟩ := hn1 z; rw [e]; rfl
  have hnr : ¬ l_lacking_1 = [] → 0 ≤ (l_told.1.getD default).n ∧ (l_told.1.getD default).n < (l_wishes_here.length : Int) := fun z => by obtain ⟨k, R, h, e⟩ := hn1 z; rw [e]; exact h
  refine ds_ifr (dt_neU (x := l_lacking_1) (y := ([] : (List Int))) hr.units (eqE_L eqE_int) (de_v 5 (pv 5)) (DN.toL (f := PyData.int) (xs := ([] : (List Int))) (dn_lst da_nil))) (fun c_1 => ?_) (fun c_1 => ?_)
  · have q_c_1 := c_1
    try simp only [eqD_t, eqD_f, decide_eq_true_eq, decide_eq_false_iff_not, Bool.not_eq_true', Bool.not_eq_false', Bool.and_eq_true, Bool.or_eq_true, Bool.and_eq_false_iff, Bool.or_eq_false_iff, Bool.not_true, Bool.not_false, Bool.not_not, Decidable.not_not] at q_c_1
    refine ds_ifr (DW.toT (dw_or (dt_isNO (de_v 3 (pv 3))) (fun h_3 => by have q := h_3; (try simp only [eqD_t, eqD_f, decide_eq_true_eq, decide_eq_false_iff_not, Bool.not_eq_true', Bool.not_eq_false', Bool.and_eq_true, Bool.or_eq_true, Bool.and_eq_false_iff, Bool.or_eq_false_iff, Bool.not_true, Bool.not_false, Bool.not_not, Decidable.not_not] at q); exact (dw_or (dt_not (dt_val (de_call (f := "_law_only") (c_l_only.at hr) rfl (da_cons (de_unO (f := (eX A)) (o := l_told.1) (de_v 3 (pv 3)) (by first | assumption | exact hnn q_c_1 | exact pre_1.some (by assumption))) (da_cons de_int da_nil)) ⟨(l_told.1.getD default), (0 : Int), (by first | omega | assumption | exact hr6 | exact hw6 _ (by assumption) | exact hw6 _ (gx_mem (by have := rng_in h_a_1; exact ⟨by omega, by omega⟩)) | exact pre_1.cd (hnn q_c_1) | exact pre_1.cd (by assumption) | exact hw6 _ (gx_mem (by have := hnr q_c_1; exact ⟨by omega, by omega⟩)) | decide), (by first | omega | assumption | exact hr6 | exact hw6 _ (by assumption) | exact hw6 _ (gx_mem (by have := rng_in h_a_1; exact ⟨by omega, by omega⟩)) | exact pre_1.cd (hnn q_c_1) | exact pre_1.cd (by assumption) | exact hw6 _ (gx_mem (by have := hnr q_c_1; exact ⟨by omega, by omega⟩)) | decide), rfl, rfl⟩))) (fun h_2 => by have q := h_2; (try simp only [eqD_t, eqD_f, decide_eq_true_eq, decide_eq_false_iff_not, Bool.not_eq_true', Bool.not_eq_false', Bool.and_eq_true, Bool.or_eq_true, Bool.and_eq_false_iff, Bool.or_eq_false_iff, Bool.not_true, Bool.not_false, Bool.not_not, Decidable.not_not] at q); exact (dw_or (dt_not (dt_val (de_call (f := "_law_whole") (c_l_whole.at hr) rfl (da_cons (de_wish (A := A) (er := (l_told.1.getD default)) (by exact hn4 q_c_1) (by rw [show (l_told.1.getD default).c = 4 from (by exact hn4 q_c_1)]; exact T.no_wish) (de_unO (f := (eX A)) (o := l_told.1) (de_v 3 (pv 3)) (by first | assumption | exact hnn q_c_1 | exact pre_1.some (by assumption)))) da_nil) ⟨(.int (l_told.1.getD default).n), rfl, rfl⟩))) (fun h_1 => by have q := h_1; (try simp only [eqD_t, eqD_f, decide_eq_true_eq, decide_eq_false_iff_not, Bool.not_eq_true', Bool.not_eq_false', Bool.and_eq_true, Bool.or_eq_true, Bool.and_eq_false_iff, Bool.or_eq_false_iff, Bool.not_true, Bool.not_false, Bool.not_not, Decidable.not_not] at q); exact (dw_or1 (dt_neI (de_wish (A := A) (er := (l_told.1.getD default)) (by exact hn4 q_c_1) (by rw [show (l_told.1.getD default).c = 4 from (by exact hn4 q_c_1)]; exact T.no_wish) (de_unO (f := (eX A)) (o := l_told.1) (de_v 3 (pv 3)) (by first | assumption | exact hnn q_c_1 | exact pre_1.some (by assumption)))) (de_ixL (de_v 5 (pv 5)) de_int (by first | first | exact ⟨by omega, by omega⟩ | (have := rng_in h_a_1; exact ⟨by omega, by omega⟩) | (have := hnr q_c_1; exact ⟨by omega, by omega⟩) | (have := List.length_pos_iff.mpr q_c_1; exact ⟨by omega, by omega⟩) | (first | exact ⟨by omega, by omega⟩ | exact inR_mod (by omega) | (unfold inR; simp only [List.length_map, List.length_append, List.length_cons, List.length_nil, List.length_replicate, rng_len, sx_len]; omega))))))))))))) (fun c_2 => ?_) (fun c_2 => ?_)
    · have q_c_2 := c_2
      try simp only [eqD_t, eqD_f, decide_eq_true_eq, decide_eq_false_iff_not, Bool.not_eq_true', Bool.not_eq_false', Bool.and_eq_true, Bool.or_eq_true, Bool.and_eq_false_iff, Bool.or_eq_false_iff, Bool.not_true, Bool.not_false, Bool.not_not, Decidable.not_not] at q_c_2
      exact ds_retD de_bl (.inl (by subst e_l_lacking_1; first | (simp only [m_l_good, c_1, c_2, cond_true, cond_false, Bool.not_true, Bool.not_false, goM, goN]; first | done | rfl) | (simp only [m_l_good]; rw [c_1, c_2]; first | done | rfl) | (simp only [m_l_good]; (try dsimp only at c_1); (try dsimp only at c_2); (try simp only [c_1, cond_true, cond_false, Bool.not_true, Bool.not_false, goM, goN]); (try simp only [c_2, cond_true, cond_false, Bool.not_true, Bool.not_false, goM, goN]); first | done | rfl)))
    have q_c_2 := c_2
    try simp only [eqD_t, eqD_f, decide_eq_true_eq, decide_eq_false_iff_not, Bool.not_eq_true', Bool.not_eq_false', Bool.and_eq_true, Bool.or_eq_true, Bool.and_eq_false_iff, Bool.or_eq_false_iff, Bool.not_true, Bool.not_false, Bool.not_not, Decidable.not_not] at q_c_2
    exact ds_retD (de_call (f := "_law_reached") (c_l_reached.at hr) rfl (da_cons (de_v 1 (pv 1)) (da_cons (de_ixL (f := (eT4 PyData.int PyData.int (eP PyData.int PyData.int) PyData.bool)) (xs := l_wishes_here) (i := (l_told.1.getD default).n) (de_v 2 (pv 2)) (de_wish (A := A) (er := (l_told.1.getD default)) (by exact hn4 q_c_1) (by rw [show (l_told.1.getD default).c = 4 from (by exact hn4 q_c_1)]; exact T.no_wish) (de_unO (f := (eX A)) (o := l_told.1) (de_v 3 (pv 3)) (by first | assumption | exact hnn q_c_1 | exact pre_1.some (by assumption)))) (by first | first | exact ⟨by omega, by omega⟩ | (have := rng_in h_a_1; exact ⟨by omega, by omega⟩) | (have := hnr q_c_1; exact ⟨by omega, by omega⟩) | (have := List.length_pos_iff.mpr q_c_1; exact ⟨by omega, by omega⟩) | (first | exact ⟨by omega, by omega⟩ | exact inR_mod (by omega) | (unfold inR; simp only [List.length_map, List.length_append, List.length_cons, List.length_nil, List.length_replicate, rng_len, sx_len]; omega)))) (da_cons (de_reached (A := A) (er := (l_told.1.getD default)) (by exact hn4 q_c_1) (by rw [show (l_told.1.getD default).c = 4 from (by exact hn4 q_c_1)]; exact T.no_reached) (de_unO (f := (eX A)) (o := l_told.1) (de_v 3 (pv 3)) (by first | assumption | exact hnn q_c_1 | exact pre_1.some (by assumption)))) da_nil))) ⟨l_roads, (gx l_wishes_here ((l_told.1.getD default).n)), ((l_told.1.getD default).r), (by first | omega | assumption | exact hr6 | exact hw6 _ (by assumption) | exact hw6 _ (gx_mem (by have := rng_in h_a_1; exact ⟨by omega, by omega⟩)) | exact pre_1.cd (hnn q_c_1) | exact pre_1.cd (by assumption) | exact hw6 _ (gx_mem (by have := hnr q_c_1; exact ⟨by omega, by omega⟩)) | decide), (by first | omega | assumption | exact hr6 | exact hw6 _ (by assumption) | exact hw6 _ (gx_mem (by have := rng_in h_a_1; exact ⟨by omega, by omega⟩)) | exact pre_1.cd (hnn q_c_1) | exact pre_1.cd (by assumption) | exact hw6 _ (gx_mem (by have := hnr q_c_1; exact ⟨by omega, by omega⟩)) | decide), (by first | omega | assumption | exact hr6 | exact hw6 _ (by assumption) | exact hw6 _ (gx_mem (by have := rng_in h_a_1; exact ⟨by omega, by omega⟩)) | exact pre_1.cd (hnn q_c_1) | exact pre_1.cd (by assumption) | exact hw6 _ (gx_mem (by have := hnr q_c_1; exact ⟨by omega, by omega⟩)) | decide), rfl, rfl⟩) (.inl (by subst e_l_lacking_1; first | (simp only [m_l_good, c_1, c_2, cond_true, cond_false, Bool.not_true, Bool.not_false, goM, goN]; first | done | rfl) | (simp only [m_l_good]; rw [c_1, c_2]; first | done | rfl) | (simp only [m_l_good]; (try dsimp only at c_1); (try dsimp only at c_2); (try simp only [c_1, cond_true, cond_false, Bool.not_true, Bool.not_false, goM, goN]); (try simp only [c_2, cond_true, cond_false, Bool.not_true, Bool.not_false, goM, goN]); first | done | rfl)))
  have q_c_1 := c_1
  try simp only [eqD_t, eqD_f, decide_eq_true_eq, decide_eq_false_iff_not, Bool.not_eq_true', Bool.not_eq_false', Bool.and_eq_true, Bool.or_eq_true, Bool.and_eq_false_iff, Bool.or_eq_false_iff, Bool.not_true, Bool.not_false, Bool.not_not, Decidable.not_not] at q_c_1
  refine ds_ifr (dt_gt (de_sum rfl (DN.toL (f := PyData.int) (xs := (l_wishes_here.map (fun (a_2 : (T4 Int Int (Int × Int) Bool)) => (m_l_listed l_roads a_2)))) (dn_lc (ea := (eT4 PyData.int PyData.int (eP PyData.int PyData.int) PyData.bool)) (eb := PyData.int) (items := l_wishes_here) (fun (a_2 : (T4 Int Int (Int × Int) Bool)) => (m_l_listed l_roads a_2)) rfl sc_l_good.nd (di_list (de_v 2 (pv 2))) (blkOk_by (N := N_l_good) (sc := defScope s_l_good) (own := [("_law_wish", 7)]) (by decide +kernel)) (fun _ _ _ _ _ => (tg_name (ln 7 sc_l_good.nd))) (by rw [sizeLine_eq]; first | omega | (simp only [List.length_map, List.length_append, List.length_cons, List.length_nil, List.length_zip, rng_len]; omega)) (fun a_2 h_a_2 => ⟨[.v ((eH (eO (eX A)) (eO (eL (eT4 PyData.int PyData.int (eP PyData.int PyData.int) PyData.bool)))) l_told), .v ((eL (eT5 PyData.int PyData.int (eP PyData.int PyData.int) (eP PyData.int PyData.int) PyData.bool)) l_roads), .v ((eL (eT4 PyData.int PyData.int (eP PyData.int PyData.int) PyData.bool)) l_wishes_here), .v ((eO (eX A)) l_told.1), .v ((eO (eL (eT4 PyData.int PyData.int (eP PyData.int PyData.int) PyData.bool))) l_told.2), .v ((eL PyData.int) l_lacking_1), .no, .v ((eT4 PyData.int PyData.int (eP PyData.int PyData.int) PyData.bool) a_2)], rfl, fun _ _ _ _ _ => (de_call (f := "_law_listed") (c_l_listed.at hr) rfl (da_cons (de_v 1 (pv 1)) (da_cons (de_v 7 (pv 7)) da_nil)) ⟨l_roads, a_2, (by first | omega | assumption | exact hr6 | exact hw6 _ (by assumption) | exact hw6 _ (gx_mem (by have := rng_in h_a_1; exact ⟨by omega, by omega⟩)) | exact pre_1.cd (hnn q_c_1) | exact pre_1.cd (by assumption) | exact hw6 _ (gx_mem (by have := hnr q_c_1; exact ⟨by omega, by omega⟩)) | decide), (by first | omega | assumption | exact hr6 | exact hw6 _ (by assumption) | exact hw6 _ (gx_mem (by have := rng_in h_a_1; exact ⟨by omega, by omega⟩)) | exact pre_1.cd (hnn q_c_1) | exact pre_1.cd (by assumption) | exact hw6 _ (gx_mem (by have := hnr q_c_1; exact ⟨by omega, by omega⟩)) | decide), (by first | omega | assumption | exact hr6 | exact hw6 _ (by assumption) | exact hw6 _ (gx_mem (by have := rng_in h_a_1; exact ⟨by omega, by omega⟩)) | exact pre_1.cd (hnn q_c_1) | exact pre_1.cd (by assumption) | exact hw6 _ (gx_mem (by have := hnr q_c_1; exact ⟨by omega, by omega⟩)) | decide), rfl, rfl⟩)⟩))) rfl T.b_sum) de_int) (fun c_3 => ?_) (fun c_3 => ?_)
  · have q_c_3 := c_3
    try simp only [eqD_t, eqD_f, decide_eq_true_eq, decide_eq_false_iff_not, Bool.not_eq_true', Bool.not_eq_false', Bool.and_eq_true, Bool.or_eq_true, Bool.and_eq_false_iff, Bool.or_eq_false_iff, Bool.not_true, Bool.not_false, Bool.not_not, Decidable.not_not] at q_c_3
    exact ds_retD (de_and (de_notNO (de_v 3 (pv 3))) (fun h_4 => by have q := h_4; (try simp only [eqD_t, eqD_f, decide_eq_true_eq, decide_eq_false_iff_not, Bool.not_eq_true', Bool.not_eq_false', Bool.and_eq_true, Bool.or_eq_true, Bool.and_eq_false_iff, Bool.or_eq_false_iff, Bool.not_true, Bool.not_false, Bool.not_not, Decidable.not_not] at q); exact (de_one (de_call (f := "_law_only") (c_l_only.at hr) rfl (da_cons (de_unO (f := (eX A)) (o := l_told.1) (de_v 3 (pv 3)) (by first | assumption | exact hnn q_c_1 | exact pre_1.some (by assumption))) (da_cons de_int da_nil)) ⟨(l_told.1.getD default), (1 : Int), (by first | omega | assumption | exact hr6 | exact hw6 _ (by assumption) | exact hw6 _ (gx_mem (by have := rng_in h_a_1; exact ⟨by omega, by omega⟩)) | exact pre_1.cd (hnn q_c_1) | exact pre_1.cd (by assumption) | exact hw6 _ (gx_mem (by have := hnr q_c_1; exact ⟨by omega, by omega⟩)) | decide), (by first | omega | assumption | exact hr6 | exact hw6 _ (by assumption) | exact hw6 _ (gx_mem (by have := rng_in h_a_1; exact ⟨by omega, by omega⟩)) | exact pre_1.cd (hnn q_c_1) | exact pre_1.cd (by assumption) | exact hw6 _ (gx_mem (by have := hnr q_c_1; exact ⟨by omega, by omega⟩)) | decide), rfl, rfl⟩)))) (.inl (by subst e_l_lacking_1; first | (simp only [m_l_good, c_1, c_3, cond_true, cond_false, Bool.not_true, Bool.not_false, goM, goN]; first | done | rfl) | (simp only [m_l_good]; rw [c_1, c_3]; first | done | rfl) | (simp only [m_l_good]; (try dsimp only at c_1); (try dsimp only at c_3); (try simp only [c_1, cond_true, cond_false, Bool.not_true, Bool.not_false, goM, goN]); (try simp only [c_3, cond_true, cond_false, Bool.not_true, Bool.not_false, goM, goN]); first | done | rfl)))
  have q_c_3 := c_3
  try simp only [eqD_t, eqD_f, decide_eq_true_eq, decide_eq_false_iff_not, Bool.not_eq_true', Bool.not_eq_false', Bool.and_eq_true, Bool.or_eq_true, Bool.and_eq_false_iff, Bool.or_eq_false_iff, Bool.not_true, Bool.not_false, Bool.not_not, Decidable.not_not] at q_c_3
  exact ds_retD (de_and (de_isNO (de_v 3 (pv 3))) (fun h_6 => by have q := h_6; (try simp only [eqD_t, eqD_f, decide_eq_true_eq, decide_eq_false_iff_not, Bool.not_eq_true', Bool.not_eq_false', Bool.and_eq_true, Bool.or_eq_true, Bool.and_eq_false_iff, Bool.or_eq_false_iff, Bool.not_true, Bool.not_false, Bool.not_not, Decidable.not_not] at q); exact (de_and (de_isi (kit_list ((eO (eL (eT4 PyData.int PyData.int (eP PyData.int PyData.int) PyData.bool))) l_told.2)) (de_v 4 (pv 4)) rfl T.b_isinstance rfl T.b_list) (fun h_5 => by have q := h_5; (try simp only [eqD_t, eqD_f, decide_eq_true_eq, decide_eq_false_iff_not, Bool.not_eq_true', Bool.not_eq_false', Bool.and_eq_true, Bool.or_eq_true, Bool.and_eq_false_iff, Bool.or_eq_false_iff, Bool.not_true, Bool.not_false, Bool.not_not, Decidable.not_not] at q); exact (de_one (de_eqU (x := (l_told.2.getD default)) (y := l_wishes_here) hr.units (eqE_L (eqE_T4 eqE_int eqE_int (eqE_P eqE_int eqE_int) eqE_bool)) (de_unO (f := (eL (eT4 PyData.int PyData.int (eP PyData.int PyData.int) PyData.bool))) (o := l_told.2) (de_v 4 (pv 4)) (by first | assumption | exact hnn q_c_1 | exact pre_1.some (by assumption))) (de_v 2 (pv 2)))))))) (.inl (by subst e_l_lacking_1; first | (simp only [m_l_good, c_1, c_3, cond_true, cond_false, Bool.not_true, Bool.not_false, goM, goN]; first | done | rfl) | (simp only [m_l_good]; rw [c_1, c_3]; first | done | rfl) | (simp only [m_l_good]; (try dsimp only at c_1); (try dsimp only at c_3); (try simp only [c_1, cond_true, cond_false, Bool.not_true, Bool.not_false, goM, goN]); (try simp only [c_3, cond_true, cond_false, Bool.not_true, Bool.not_false, goM, goN]); first | done | rfl)))
theorem only_is (e : Er) (k : Int) (h : e.c = 4 ∧ k = 0 ∨ e.c = 5 ∧ k = 1) : m_l_only e k = true := by
  obtain ⟨c, n, r⟩ := e
  rcases h with ⟨h1, h2⟩ | ⟨h1, h2⟩ <;> (simp only at h1; subst h1; subst h2; rfl)
theorem good_true {rs : List Rd} {ws : List Ws} {t : Option Er × Option (List Ws)} (h : Told rs ws t) : m_l_good t rs ws = true := by
  unfold m_l_good
  simp only
  rw [lack_eq]
  cases q : lack rs ws with
  | cons k L =>
    obtain ⟨R, e, hr⟩ := h.way k L q
    have e1 : eqD (k :: L) ([] : List Int) = false := decide_eq_false (fun z => by cases z)
    have e2 : gx (k :: L) (0 : Int) = k := gx_eq (i := 0) (by decide) rfl
    rw [e1, e, e2]
    show (bif (false || (!(m_l_only ⟨4, k, R⟩ 0) || (!(m_l_whole (.int k)) || !decide (k = k)))) then false else m_l_reached rs (gx ws k) R) = true
    rw [only_is ⟨4, k, R⟩ 0 (.inl ⟨rfl, rfl⟩), decide_eq_true rfl, hr]
    rfl
  | nil =>
    have e1 : eqD ([] : List Int) ([] : List Int) = true := eqD_self _
    rw [e1]
    show (bif decide ((10 : Int) < (ws.map (fun w => m_l_listed rs w)).sum) then _ else _) = true
    by_cases c : (10 : Int) < (ws.map (fun w => m_l_listed rs w)).sum
    · rw [decide_eq_true c, h.many q c]
      show (true && m_l_only (er 5) 1) = true
      rw [only_is (er 5) 1 (.inr ⟨rfl, rfl⟩)]; rfl
    · rw [decide_eq_false c, h.ok q c]
      show (true && (true && eqD ws ws)) = true
      rw [eqD_self]; rfl
def m_l_laid (l_roads : (List (T5 Int Int (Int × Int) (Int × Int) Bool))) (l_wish : (T4 Int Int (Int × Int) Bool)) : (List (T5 Int Int (Int × Int) (Int × Int) Bool)) := (let l_road_1 := (⟨l_wish.a, l_wish.b, ((2 : Int), (3 : Int)), ((1 : Int), (2 : Int)), false⟩ : (T5 Int Int (Int × Int) (Int × Int) Bool)); (bif (decide ((l_roads.length : Int) < (12 : Int))) then (l_roads ++ ([l_road_1] : (List (T5 Int Int (Int × Int) (Int × Int) Bool)))) else (([l_road_1] : (List (T5 Int Int (Int × Int) (Int × Int) Bool))) ++ (cutG l_roads (some (1 : Int)) none))))
def r_l_laid (xs : List PyData) (r : Res) : Prop := ∃ (l_roads : (List (T5 Int Int (Int × Int) (Int × Int) Bool))) (l_wish : (T4 Int Int (Int × Int) Bool)), (l_roads.length ≤ 12) ∧ xs = [((eL (eT5 PyData.int PyData.int (eP PyData.int PyData.int) (eP PyData.int PyData.int) PyData.bool)) l_roads), ((eT4 PyData.int PyData.int (eP PyData.int PyData.int) PyData.bool) l_wish)] ∧ r = .ok ((oL (eT5 PyData.int PyData.int (eP PyData.int PyData.int) (eP PyData.int PyData.int) PyData.bool)) (m_l_laid l_roads l_wish))
abbrev N_l_laid : List Str := ["_law_roads", "_law_wish", "_law_road"]
theorem sc_l_laid : FnScope N_l_laid ["_law_roads", "_law_wish"] (defScope s_l_laid) := ⟨rfl, rfl, rfl, by decide +kernel, rfl, by decide +kernel, by decide +kernel⟩
theorem ok_l_laid (F : Def K mg "_law_laid" s_l_laid ["_law_roads", "_law_wish"]) (T : Txt K mg A)  : Cal P w K mg base "_law_laid" 2 r_l_laid 1 := by
  refine cal_ok F sc_l_laid rfl fun fa cdv AA outer ss HH EE X hX C hr xs r hl hR => ?_
  obtain ⟨l_roads, l_wish, pre_0, rfl, rfl⟩ := hR
  subst hX
  show DSs _ _ _ [.v ((eL (eT5 PyData.int PyData.int (eP PyData.int PyData.int) (eP PyData.int PyData.int) PyData.bool)) l_roads), .v ((eT4 PyData.int PyData.int (eP PyData.int PyData.int) PyData.bool) l_wish), .no] _
  obtain ⟨l_road_1, e_l_road_1⟩ : ∃ z : (T5 Int Int (Int × Int) (Int × Int) Bool), z = (⟨l_wish.a, l_wish.b, ((2 : Int), (3 : Int)), ((1 : Int), (2 : Int)), false⟩ : (T5 Int Int (Int × Int) (Int × Int) Bool)) := ⟨_, rfl⟩
  refine ds_then (E' := [.v ((eL (eT5 PyData.int PyData.int (eP PyData.int PyData.int) (eP PyData.int PyData.int) PyData.bool)) l_roads), .v ((eT4 PyData.int PyData.int (eP PyData.int PyData.int) PyData.bool) l_wish), .v ((eT5 PyData.int PyData.int (eP PyData.int PyData.int) (eP PyData.int PyData.int) PyData.bool) l_road_1)]) (ds_set (x := ((eT5 PyData.int PyData.int (eP PyData.int PyData.int) (eP PyData.int PyData.int) PyData.bool) l_road_1)) (ln 2 sc_l_laid.nd) (deC (by subst e_l_road_1; rfl) (de_tup (da_cons (de_it (de_v 1 (pv 1)) de_int) (da_cons (de_it (de_v 1 (pv 1)) de_int) (da_cons (de_tup (da_cons de_int (da_cons de_int da_nil))) (da_cons (de_tup (da_cons de_int (da_cons de_int da_nil))) (da_cons de_bl da_nil)))))))) ?_
  refine ds_ifr (dt_lt (de_lenL (de_v 0 (pv 0)) rfl T.b_len) de_int) (fun c_1 => ?_) (fun c_1 => ?_)
  · have q_c_1 := c_1
    try simp only [eqD_t, eqD_f, decide_eq_true_eq, decide_eq_false_iff_not, Bool.not_eq_true', Bool.not_eq_false', Bool.and_eq_true, Bool.or_eq_true, Bool.and_eq_false_iff, Bool.or_eq_false_iff, Bool.not_true, Bool.not_false, Bool.not_not, Decidable.not_not] at q_c_1
    exact ds_retN (dn_catL (de_v 0 (pv 0)) (DN.toL (f := (eT5 PyData.int PyData.int (eP PyData.int PyData.int) (eP PyData.int PyData.int) PyData.bool)) (xs := ([l_road_1] : (List (T5 Int Int (Int × Int) (Int × Int) Bool)))) (dn_lst (da_cons (de_v 2 (pv 2)) da_nil))) (by rw [sizeLine_eq]; first | omega | (have c1 := cutG_len l_roads (some (1 : Int)) none; simp only [List.length_cons, List.length_nil]; omega) | (simp only [List.length_append, List.length_cons, List.length_nil, List.length_map, List.length_replicate]; omega))) (.inl (by subst e_l_road_1; first | (simp only [m_l_laid, c_1, cond_true, cond_false, Bool.not_true, Bool.not_false, goM, goN]; first | done | rfl) | (simp only [m_l_laid]; rw [c_1]; first | done | rfl) | (simp only [m_l_laid]; (try dsimp only at c_1); (try simp only [c_1, cond_true, cond_false, Bool.not_true, Bool.not_false, goM, goN]); first | done | rfl)))
  have q_c_1 := c_1
  try simp only [eqD_t, eqD_f, decide_eq_true_eq, decide_eq_false_iff_not, Bool.not_eq_true', Bool.not_eq_false', Bool.and_eq_true, Bool.or_eq_true, Bool.and_eq_false_iff, Bool.or_eq_false_iff, Bool.not_true, Bool.not_false, Bool.not_not, Decidable.not_not] at q_c_1
  exact ds_retN (dn_catL (DN.toL (f := (eT5 PyData.int PyData.int (eP PyData.int PyData.int) (eP PyData.int PyData.int) PyData.bool)) (xs := ([l_road_1] : (List (T5 Int Int (Int × Int) (Int × Int) Bool)))) (dn_lst (da_cons (de_v 2 (pv 2)) da_nil))) (DN.toL (f := (eT5 PyData.int PyData.int (eP PyData.int PyData.int) (eP PyData.int PyData.int) PyData.bool)) (xs := (cutG l_roads (some (1 : Int)) none)) (dn_cutL (de_v 0 (pv 0)) (do_som de_int) do_non)) (by rw [sizeLine_eq]; first | omega | (have c1 := cutG_len l_roads (some (1 : Int)) none; simp only [List.length_cons, List.length_nil]; omega) | (simp only [List.length_append, List.length_cons, List.length_nil, List.length_map, List.length_replicate]; omega))) (.inl (by subst e_l_road_1; first | (simp only [m_l_laid, c_1, cond_true, cond_false, Bool.not_true, Bool.not_false, goM, goN]; first | done | rfl) | (simp only [m_l_laid]; rw [c_1]; first | done | rfl) | (simp only [m_l_laid]; (try dsimp only at c_1); (try simp only [c_1, cond_true, cond_false, Bool.not_true, Bool.not_false, goM, goN]); first | done | rfl)))
theorem ne_mod {m s x : Int} (hs : 0 ≤ s ∧ s < m) (hx : 0 ≤ x ∧ x < m - 1) : (s + 1 + x) % m ≠ s := by
  by_cases c : s + 1 + x < m
  · rw [Int.emod_eq_of_lt (by omega) c]; omega
  · have h := Int.add_emod_right (s + 1 + x - m) m
    rw [show s + 1 + x - m + m = s + 1 + x by omega] at h
    rw [h, Int.emod_eq_of_lt (by omega) (by omega)]; omega
theorem place_i (i m : Int) : m_is_place (.int i) m = (decide (0 ≤ i) && decide (i < m)) := rfl
structure FrG (c : Fr) : Prop where
  top : 0 < c.1
  bot : 0 < c.2
  g : Int.gcd c.1 c.2 = 1
theorem fits_ok {w : T4 Int Int Fr Bool} {m : Int} (ha : 0 ≤ w.a ∧ w.a < m) (hb : 0 ≤ w.b ∧ w.b < m) (hn : w.a ≠ w.b) (hc : FrG w.c) : m_wish_fits (eWS w) m = true := by
  show m_wish_fits (.tuple [.int w.a, .int w.b, eP .int .int w.c, .bool w.d]) m = true
  rw [fits_4]
  have h1 : m_two_places (.int w.a) (.int w.b) m = true := by
    unfold m_two_places
    rw [place_i, place_i, decide_eq_true ha.1, decide_eq_true ha.2, decide_eq_true hb.1, decide_eq_true hb.2]
    show (true && !decide (w.a = w.b)) = true
    rw [decide_eq_false hn]; rfl
  have h2 : m_is_fraction (eP .int .int w.c) = true := by
    show m_is_fraction (.tuple [.int w.c.1, .int w.c.2]) = true
    rw [isfr_int, decide_eq_true hc.bot, decide_eq_true hc.g]; rfl
  have h3 : gx (elems (eP PyData.int PyData.int w.c)) 0 = .int w.c.1 := gx_eq (i := 0) (by decide) rfl
  rw [h1, h2, h3]
  show (true && (true && (decide (0 < w.c.1) && true))) = true
  rw [decide_eq_true hc.top]; rfl
theorem draws_len {ns : List Int} (h : ns.length ≤ 63) : 64 ≤ (m_l_draws ns).length := by
  unfold m_l_draws
  simp only
  have hc := cells_len h
  generalize ns ++ (List.replicate (if (eqD ns ([] : (List Int))) = true then (1 : Int) else 0).toNat (0 : Int)) = cs at *
  rw [many_64 hc.2]
  generalize (((10 : Int) ^ 20) + (39 : Int)) = b
  by_cases c : (gx cs (0 : Int)) % (2 : Int) = 0
  · rw [decide_eq_true c, cond_true]
    have hl := left_len (x := gx cs (0 : Int) / (2 : Int)) hc.1
    generalize ([gx cs (0 : Int) / (2 : Int)] : List Int) ++ cutG cs (some (1 : Int)) none = left at *
    obtain ⟨z, k1, _, k2⟩ := whileG_inv (c := l_l_draws_1_c cs 64 b) (f := l_l_draws_1 cs 64 b) (fun s => s.2.length = cs.length) (fun s => 64 - s.1.length) (fun s hi hcz => by
      have hlt : (s.1.length : Int) < 64 := of_decide_eq_true hcz
      obtain ⟨t, e1, e2⟩ := forG_inv (f := l_l_draws_2 b) (xs := rng 0 (cs.length : Int).toNat) (fun i t => t.2.length = cs.length ∧ t.1.length = s.1.length + i) (fun i a t ha ht => by
        refine ⟨(t.1 ++ [gx t.2 a % b], sx t.2 a (gx t.2 a / b)), rfl, by show (sx t.2 a _).length = _; rw [sx_len]; exact ht.1, ?_⟩
        show (t.1 ++ [_]).length = _
        rw [List.length_append]
        show t.1.length + 1 = _
        omega) (s := (s.1, s.2)) ⟨hi, rfl⟩
      rw [rng_len] at e2
      refine ⟨t, ?_, e2.1, ?_⟩
      · unfold l_l_draws_1
        rw [goN_nx e1]
      · show 64 - t.1.length < 64 - s.1.length
        omega) (64 + 1) ([], left) hl (Nat.lt_succ_self _)
    have hk : ¬ (z.1.length : Int) < 64 := of_decide_eq_false k2
    show 64 ≤ (goN (whileG (l_l_draws_1_c cs 64 b) (l_l_draws_1 cs 64 b) (64 + 1) ([], left)) (fun s => s.1)).length
    rw [goN_nx k1]
    omega
  · rw [decide_eq_false c, cond_false]
    obtain ⟨t, e1, e2⟩ := forG_inv (f := l_l_draws_3 cs b) (xs := rng 0 (64 : Int).toNat) (fun i t => t.length = i) (fun i a t ha ht => by
      refine ⟨_, rfl, ?_⟩
      try simp only
      rw [List.length_append, ht]; rfl) (s := []) rfl
    rw [goN_nx e1, e2, rng_len]
    exact Nat.le_refl 64
structure NetI (net : Int × List Rd) : Prop where
  hm : 2 ≤ net.1 ∧ net.1 ≤ 6
  len : net.2.length ≤ 12
  ends : ∀ r ∈ net.2, (0 ≤ r.a ∧ r.a < net.1) ∧ (0 ≤ r.b ∧ r.b < net.1)
theorem net_ok (ds : List Int) : NetI (m_l_net ds) := by
  have hm : 2 ≤ (2 : Int) + gx ds 0 % 5 ∧ (2 : Int) + gx ds 0 % 5 ≤ 6 := by omega
  unfold m_l_net
  simp only
  have hlim := lim12 (m_l_mixed ds 1)
  generalize (2 : Int) + gx ds 0 % 5 = m at *
  generalize m_l_mixed ds 1 = hd at *
  obtain ⟨t, e1, e2, e3⟩ := forG_inv (f := l_l_net_1 ds m hd (hd % ((1 : Int) * 2 ^ m.toNat))) (xs := rng 0 (((hd / (64 : Int)) % (13 : Int)) * (if (decide ((0 : Int) < ((hd / (1024 : Int)) % (8 : Int)))) = true then (1 : Int) else 0)).toNat) (fun i t => t.length = i ∧ ∀ r ∈ t, (0 ≤ r.a ∧ r.a < m) ∧ (0 ≤ r.b ∧ r.b < m)) (fun i a t ha ht => by
    refine ⟨_, rfl, ?_⟩
    try simp only
    generalize m_l_mixed ds (5 + a) = c
    have h1 : 0 ≤ c % m ∧ c % m < m := ⟨Int.emod_nonneg _ (by omega), Int.emod_lt_of_pos _ (by omega)⟩
    have h3 : 0 ≤ ((c % m + 1) + (c / 6) % (m - 1)) % m ∧ ((c % m + 1) + (c / 6) % (m - 1)) % m < m := ⟨Int.emod_nonneg _ (by omega), Int.emod_lt_of_pos _ (by omega)⟩
    refine ⟨by rw [List.length_append, ht.1]; rfl, fun r hr => ?_⟩
    rcases List.mem_append.mp hr with z | z
    · exact ht.2 r z
    · rw [List.mem_singleton.mp z]
      generalize (decide ((hd / 8192) % 3 = 1) && (decide (bAnd (hd % ((1 : Int) * 2 ^ m.toNat) / 2 ^ (c % m).toNat) 1 = 1) && decide (bAnd (hd % ((1 : Int) * 2 ^ m.toNat) / 2 ^ (((c % m + 1) + (c / 6) % (m - 1)) % m).toNat) 1 = 0))) = q
      cases q
      · exact ⟨h1, h3⟩
      · exact ⟨h3, h1⟩) (s := []) ⟨rfl, fun r hr => absurd hr List.not_mem_nil⟩
  rw [goN_nx e1]
  refine ⟨hm, ?_, e3⟩
  show t.length ≤ 12
  rw [e2, rng_len]
  exact hlim
theorem wishes_nw {net : Int × List Rd} (ds : List Int) (h : NetI net) : NW net.1 net.2 (m_l_wishes ds net.1) := by
  have hm := h.hm
  unfold m_l_wishes
  simp only
  obtain ⟨t, e1, e2, e3⟩ := forG_inv (f := l_l_wishes_1 ds net.1) (xs := rng 0 ((1 : Int) + ((gx ds 0 / 5) % 3)).toNat) (fun i t => t.length = i ∧ ∀ w ∈ t, (0 ≤ w.a ∧ w.a < net.1) ∧ (0 ≤ w.b ∧ w.b < net.1) ∧ w.a ≠ w.b ∧ m_wish_fits (eWS w) net.1 = true) (fun i a t ha ht => by
    refine ⟨_, rfl, ?_⟩
    try simp only
    generalize (bif (decide (((gx ds 0 / 15) % 4) = 1)) then m_l_mixed ds 2 else m_l_mixed ds (2 + a)) = c
    have h1 : 0 ≤ c % net.1 ∧ c % net.1 < net.1 := ⟨Int.emod_nonneg _ (by omega), Int.emod_lt_of_pos _ (by omega)⟩
    have h2 : 0 ≤ (c / 6) % (net.1 - 1) ∧ (c / 6) % (net.1 - 1) < net.1 - 1 := ⟨Int.emod_nonneg _ (by omega), Int.emod_lt_of_pos _ (by omega)⟩
    have h3 : 0 ≤ ((c % net.1 + 1) + (c / 6) % (net.1 - 1)) % net.1 ∧ ((c % net.1 + 1) + (c / 6) % (net.1 - 1)) % net.1 < net.1 := ⟨Int.emod_nonneg _ (by omega), Int.emod_lt_of_pos _ (by omega)⟩
    have h4 := ne_mod h1 h2
    have h5 : 0 ≤ (c / 36) % 10 ^ 9 := Int.emod_nonneg _ (by decide)
    refine ⟨by rw [List.length_append, ht.1]; rfl, fun w hw => ?_⟩
    rcases List.mem_append.mp hw with z | z
    · exact ht.2 w z
    · rw [List.mem_singleton.mp z]
      exact ⟨h1, h3, fun e => h4 e.symm, fits_ok (w := ⟨_, _, _, _⟩) h1 h3 (fun e => h4 e.symm) ⟨by show 0 < 1 + (c / 36) % 10 ^ 9; omega, by show (0 : Int) < 1; decide, Int.gcd_one⟩⟩) (s := []) ⟨rfl, fun r hr => absurd hr List.not_mem_nil⟩
  rw [goN_nx e1]
  rw [rng_len] at e2
  exact ⟨hm, h.len, h.ends, by omega, e3⟩
theorem laid_nw {m : Int} {rs : List Rd} {ws : List Ws} {w : Ws} (h : NW m rs ws) (hw : w ∈ ws) : NW m (m_l_laid rs w) ws := by
  have h1 := h.each w hw
  have hl := h.len
  refine ⟨h.hm, ?_, fun r hr => ?_, h.wl, h.each⟩
  · unfold m_l_laid
    simp only
    by_cases c : (rs.length : Int) < 12
    · rw [decide_eq_true c, cond_true, List.length_append]
      show rs.length + 1 ≤ 12
      omega
    · rw [decide_eq_false c, cond_false, cut_from rs (by decide) (by omega), List.length_append, List.length_drop]
      show 1 + (rs.length - 1) ≤ 12
      omega
  · unfold m_l_laid at hr
    simp only at hr
    have hone : ∀ r ∈ ([⟨w.a, w.b, ((2 : Int), (3 : Int)), ((1 : Int), (2 : Int)), false⟩] : List Rd), (0 ≤ r.a ∧ r.a < m) ∧ (0 ≤ r.b ∧ r.b < m) := fun r hr => by rw [List.mem_singleton.mp hr]; exact ⟨h1.1, h1.2.1⟩
    by_cases c : (rs.length : Int) < 12
    · rw [decide_eq_true c, cond_true] at hr
      rcases List.mem_append.mp hr with z | z
      · exact h.ends r z
      · exact hone r z
    · rw [decide_eq_false c, cond_false] at hr
      rcases List.mem_append.mp hr with z | z
      · exact hone r z
      · exact h.ends r (List.mem_of_mem_drop (List.mem_of_mem_take z))
structure EaI (xs : List (T3 Er Int (List Int))) (n : Int) : Prop where
  len : (xs.length : Int) ≤ n
  each : ∀ x ∈ xs, x.a.c = 4 ∧ x.a.n = x.b ∧ x.a.r = x.c
theorem eaI_0 : EaI [] (((0 : Nat) : Int)) := ⟨Int.le_refl 0, fun x hx => absurd hx List.not_mem_nil⟩
def lackW (rs : List Rd) (ws : List Ws) : List Ws := (ws.filter (fun a => decide (m_l_listed rs a = 0))).map (fun a => a)
theorem lackW_in {rs : List Rd} {ws : List Ws} {w : Ws} (h : w ∈ lackW rs ws) : w ∈ ws ∧ m_l_listed rs w = 0 := by
  unfold lackW at h
  rw [List.map_id'] at h
  exact ⟨(List.mem_filter.mp h).1, of_decide_eq_true (List.mem_filter.mp h).2⟩
theorem lackW_ne {rs : List Rd} {ws : List Ws} (h : ¬ lackW rs ws = []) : ¬ lack rs ws = [] := fun z => by
  obtain ⟨w, hw⟩ := List.exists_mem_of_ne_nil _ h
  obtain ⟨h1, h2⟩ := lackW_in hw
  obtain ⟨i, hi⟩ := List.getElem?_of_mem h1
  have hl := get_lt hi
  have hg := gx_eq (xs := ws) (i := (i : Int)) (by omega) hi
  have hm : (i : Int) ∈ lack rs ws := List.mem_filter.mpr ⟨by
    have : (rng 0 ws.length)[i]? = some (i : Int) := by
      have := List.getElem?_eq_getElem (l := rng 0 ws.length) (i := i) (by rw [rng_len]; exact hl)
      have h5 := rng_get this
      rw [this]; congr 1; omega
    exact List.mem_of_getElem? this, by rw [hg]; exact decide_eq_true h2⟩
  rw [z] at hm
  exact absurd hm List.not_mem_nil
def l_law_1 (k_l_many : Int) (k_l_wishes_here : (List (T4 Int Int (Int × Int) Bool))) (s_1 : (List (T5 Int Int (Int × Int) (Int × Int) Bool)) × (List (T3 Er Int (List Int)))) (a_1 : Int) : Go ((List (T5 Int Int (Int × Int) (Int × Int) Bool)) × (List (T3 Er Int (List Int)))) Bool := (let l_handed_1 := (s_1.1, k_l_wishes_here); (let l_told_1 := (m_l_asked (k_l_many, l_handed_1.1) l_handed_1.2); (bif ((!(m_l_good l_told_1 s_1.1 k_l_wishes_here)) || (!eqD l_handed_1 (s_1.1, k_l_wishes_here))) then (.rt false) else (let l_lacking_1 := ((k_l_wishes_here.filter (fun (a_2 : (T4 Int Int (Int × Int) Bool)) => (decide ((m_l_listed s_1.1 a_2) = (0 : Int))))).map (fun (a_2 : (T4 Int Int (Int × Int) Bool)) => a_2)); (let p_2 := (bif (!eqD l_lacking_1 ([] : (List (T4 Int Int (Int × Int) Bool)))) then (let l_earlier_2 := (s_1.2 ++ [(⟨(l_told_1.1.getD default), (l_told_1.1.getD default).n, (l_told_1.1.getD default).r⟩ : (T3 Er Int (List Int)))]); (let l_roads_1 := (m_l_laid s_1.1 (gx l_lacking_1 (0 : Int))); (l_roads_1, l_earlier_2))) else (s_1.1, s_1.2)); (.nx (p_2.1, p_2.2)))))))
def l_law_2  (s_3 : Unit) (a_3 : (T3 Er Int (List Int))) : Go (Unit) Bool := (bif ((!decide (a_3.a.n = a_3.b)) || (!eqD a_3.a.r a_3.c)) then (.rt false) else (.nx ()))
def m_law (l_script : (List Int)) : Bool := (let l_draws_here_1 := (m_l_draws l_script); (let p_1 := (m_l_net l_draws_here_1); (let l_wishes_here_1 := (m_l_wishes l_draws_here_1 p_1.1); (let l_earlier_1 := ([] : (List (T3 Er Int (List Int)))); (goM (forG (l_law_1 p_1.1 l_wishes_here_1) (rng 0 (4 : Int).toNat) (p_1.2, l_earlier_1)) (fun r => r) (fun s_2 => (goM (forG l_law_2 s_2.2 ()) (fun r => r) (fun s_4 => true))))))))
theorem law_turn {m : Int} {ws : List Ws} {s : List Rd × List (T3 Er Int (List Int))} {a : Int} {i : Nat} (h : NW m s.1 ws ∧ EaI s.2 ((i : Nat) : Int)) : ∃ s', l_law_1 m ws s a = .nx s' ∧ NW m s'.1 ws ∧ EaI s'.2 (((i + 1 : Nat)) : Int) := by
  have ht := asked_told h.1
  have hg := good_true ht
  have e0 : l_law_1 m ws s a = (bif ((!(m_l_good (m_l_asked (m, s.1) ws) s.1 ws)) || (!eqD (s.1, ws) (s.1, ws))) then (.rt false) else (.nx (bif (!eqD (lackW s.1 ws) []) then (m_l_laid s.1 (gx (lackW s.1 ws) 0), s.2 ++ [(⟨(m_l_asked (m, s.1) ws).1.getD default, ((m_l_asked (m, s.1) ws).1.getD default).n, ((m_l_asked (m, s.1) ws).1.getD default).r⟩ : T3 Er Int (List Int))]) else (s.1, s.2)))) := rfl
  rw [e0, hg, eqD_self]
  have hlen := h.2.len
  by_cases c : lackW s.1 ws = []
  · rw [c, eqD_self]
    exact ⟨_, rfl, h.1, by show ((s.2.length : Nat) : Int) ≤ _; omega, h.2.each⟩
  · rw [show eqD (lackW s.1 ws) [] = false from decide_eq_false c]
    obtain ⟨k, R, _, e⟩ := ht.none_f (lackW_ne c)
    refine ⟨_, rfl, laid_nw h.1 (lackW_in (gx_mem (by have := List.length_pos_iff.mpr c; exact ⟨by omega, by omega⟩))).1, ?_, fun x hx => ?_⟩
    · show (((s.2 ++ [_]).length : Nat) : Int) ≤ _
      rw [List.length_append]
      show ((s.2.length + 1 : Nat) : Int) ≤ _
      omega
    · rcases List.mem_append.mp hx with z | z
      · exact h.2.each x z
      · rw [List.mem_singleton.mp z, e]
        exact ⟨rfl, rfl, rfl⟩
def r_law (xs : List PyData) (r : Res) : Prop := ∃ (l_script : (List Int)), (l_script.length ≤ 63) ∧ xs = [((eL PyData.int) l_script)] ∧ r = .v (.bool (m_law l_script))
abbrev N_law : List Str := ["_law_script", "_law_draws_here", "_law_many", "_law_roads", "_law_wishes_here", "_law_earlier", "_law_turn", "_law_handed", "_law_told", "_law_lacking", "_law_wish", "_law_came", "_law_number", "_law_reached_here"]
theorem sc_law : FnScope N_law ["_law_script"] (defScope s_law) := ⟨rfl, rfl, rfl, by decide +kernel, rfl, by decide +kernel, by decide +kernel⟩
theorem ok_law {g : Addr} {fd : FuncData} (F : Fun K "law" "law" s_law g fd) (T : Txt K mg A) (c_l_draws : Cal P w K mg base "_law_draws" 1 r_l_draws 1) (c_l_net : Cal P w K mg base "_law_net" 1 r_l_net 2) (c_l_wishes : Cal P w K mg base "_law_wishes" 2 r_l_wishes 2) (c_l_listed : Cal P w K mg base "_law_listed" 2 r_l_listed 1) (c_l_asked : Cal P w K mg base "_law_asked" 2 (r_l_asked A) 6) (c_l_good : Cal P w K mg base "_law_good" 3 (r_l_good A) 3) (c_l_laid : Cal P w K mg base "_law_laid" 2 r_l_laid 1) : FnOk P w K mg base (L2.CX P w) 7 g fd ["_law_script"] (spD K 1 r_law) := by
  refine law_ok F sc_law rfl fun fa cdv AA outer ss HH EE X hX C hr xs r hl hR => ?_
  obtain ⟨l_script, pre_0, rfl, rfl⟩ := hR
  subst hX
  show DSs _ _ _ [.v ((eL PyData.int) l_script), .no, .no, .no, .no, .no, .no, .no, .no, .no, .no, .no, .no, .no] _
  obtain ⟨l_draws_here_1, e_l_draws_here_1⟩ : ∃ z : (List Int), z = (m_l_draws l_script) := ⟨_, rfl⟩
  refine ds_then (E' := [.v ((eL PyData.int) l_script), .v ((eL PyData.int) l_draws_here_1), .no, .no, .no, .no, .no, .no, .no, .no, .no, .no, .no, .no]) (ds_set (x := ((eL PyData.int) l_draws_here_1)) (ln 1 sc_law.nd) (deC (by subst e_l_draws_here_1; rfl) (DN.toL (f := PyData.int) (xs := (m_l_draws l_script)) (dn_call (f := "_law_draws") (t := (oL PyData.int) (m_l_draws l_script)) (c_l_draws.at hr) rfl (da_cons (de_v 0 (pv 0)) da_nil) ⟨l_script, (by first | omega | assumption | exact ⟨_, hi_1.1⟩ | (rw [hh]; show s_1.1.length ≤ 13; omega) | (rw [hh]; exact h6) | exact h6 | exact hw6 _ (by assumption) | decide), rfl, rfl⟩)))) ?_
  have hdl : 64 ≤ l_draws_here_1.length := by rw [e_l_draws_here_1]; exact draws_len pre_0
  obtain ⟨p_1, e_p_1⟩ : ∃ z : (Int × (List (T5 Int Int (Int × Int) (Int × Int) Bool))), z = (m_l_net l_draws_here_1) := ⟨_, rfl⟩
  refine ds_then (E' := [.v ((eL PyData.int) l_script), .v ((eL PyData.int) l_draws_here_1), .v (.int p_1.1), .v ((eL (eT5 PyData.int PyData.int (eP PyData.int PyData.int) (eP PyData.int PyData.int) PyData.bool)) p_1.2), .no, .no, .no, .no, .no, .no, .no, .no, .no, .no]) (ds_asg (x := ((eP PyData.int (eL (eT5 PyData.int PyData.int (eP PyData.int PyData.int) (eP PyData.int PyData.int) PyData.bool))) p_1)) (tg_two rfl (tg_name (ln 2 sc_law.nd)) (tg_name (ln 3 sc_law.nd))) (deC (by subst e_p_1; rfl) (DN.toPL (f := PyData.int) (g := (eT5 PyData.int PyData.int (eP PyData.int PyData.int) (eP PyData.int PyData.int) PyData.bool)) (v := (m_l_net l_draws_here_1)) (dn_call (f := "_law_net") (t := (oPL PyData.int (eT5 PyData.int PyData.int (eP PyData.int PyData.int) (eP PyData.int PyData.int) PyData.bool)) (m_l_net l_draws_here_1)) (c_l_net.at hr) rfl (da_cons (de_v 1 (pv 1)) da_nil) ⟨l_draws_here_1, (by first | omega | assumption | exact ⟨_, hi_1.1⟩ | (rw [hh]; show s_1.1.length ≤ 13; omega) | (rw [hh]; exact h6) | exact h6 | exact hw6 _ (by assumption) | decide), rfl, rfl⟩)))) ?_
  try (have hnet : NetI p_1 := by rw [e_p_1]; exact net_ok _)
  try (have hnm := hnet.hm)
  obtain ⟨l_wishes_here_1, e_l_wishes_here_1⟩ : ∃ z : (List (T4 Int Int (Int × Int) Bool)), z = (m_l_wishes l_draws_here_1 p_1.1) := ⟨_, rfl⟩
  refine ds_then (E' := [.v ((eL PyData.int) l_script), .v ((eL PyData.int) l_draws_here_1), .v (.int p_1.1), .v ((eL (eT5 PyData.int PyData.int (eP PyData.int PyData.int) (eP PyData.int PyData.int) PyData.bool)) p_1.2), .v ((eL (eT4 PyData.int PyData.int (eP PyData.int PyData.int) PyData.bool)) l_wishes_here_1), .no, .no, .no, .no, .no, .no, .no, .no, .no]) (ds_set (x := ((eL (eT4 PyData.int PyData.int (eP PyData.int PyData.int) PyData.bool)) l_wishes_here_1)) (ln 4 sc_law.nd) (deC (by subst e_l_wishes_here_1; rfl) (DN.toL (f := (eT4 PyData.int PyData.int (eP PyData.int PyData.int) PyData.bool)) (xs := (m_l_wishes l_draws_here_1 p_1.1)) (dn_call (f := "_law_wishes") (t := (oL (eT4 PyData.int PyData.int (eP PyData.int PyData.int) PyData.bool)) (m_l_wishes l_draws_here_1 p_1.1)) (c_l_wishes.at hr) rfl (da_cons (de_v 1 (pv 1)) (da_cons (de_v 2 (pv 2)) da_nil)) ⟨l_draws_here_1, p_1.1, (by first | omega | assumption | exact ⟨_, hi_1.1⟩ | (rw [hh]; show s_1.1.length ≤ 13; omega) | (rw [hh]; exact h6) | exact h6 | exact hw6 _ (by assumption) | decide), (by first | omega | assumption | exact ⟨_, hi_1.1⟩ | (rw [hh]; show s_1.1.length ≤ 13; omega) | (rw [hh]; exact h6) | exact h6 | exact hw6 _ (by assumption) | decide), rfl, rfl⟩)))) ?_
  have hnw := wishes_nw l_draws_here_1 hnet
  rw [← e_l_wishes_here_1] at hnw
  obtain ⟨l_earlier_1, e_l_earlier_1⟩ : ∃ z : (List (T3 Er Int (List Int))), z = ([] : (List (T3 Er Int (List Int)))) := ⟨_, rfl⟩
  refine ds_then (E' := [.v ((eL PyData.int) l_script), .v ((eL PyData.int) l_draws_here_1), .v (.int p_1.1), .v ((eL (eT5 PyData.int PyData.int (eP PyData.int PyData.int) (eP PyData.int PyData.int) PyData.bool)) p_1.2), .v ((eL (eT4 PyData.int PyData.int (eP PyData.int PyData.int) PyData.bool)) l_wishes_here_1), .o (oL (eT3 (eX A) PyData.int (eL PyData.int)) l_earlier_1), .no, .no, .no, .no, .no, .no, .no, .no]) (ds_setN (t := oL (eT3 (eX A) PyData.int (eL PyData.int)) l_earlier_1) (ln 5 sc_law.nd) (dnC (by subst e_l_earlier_1; rfl) (dn_lst da_nil))) ?_
  refine ds_forG (items := (rng 0 (4 : Int).toNat)) (ea := PyData.int) (fun (s_1 : (List (T5 Int Int (Int × Int) (Int × Int) Bool)) × (List (T3 Er Int (List Int)))) => [.v ((eL PyData.int) l_script), .v ((eL PyData.int) l_draws_here_1), .v (.int p_1.1), .v ((eL (eT5 PyData.int PyData.int (eP PyData.int PyData.int) (eP PyData.int PyData.int) PyData.bool)) s_1.1), .v ((eL (eT4 PyData.int PyData.int (eP PyData.int PyData.int) PyData.bool)) l_wishes_here_1), .o (oL (eT3 (eX A) PyData.int (eL PyData.int)) s_1.2), .no, .no, .no, .no, .no, .no, .no, .no]) (l_law_1 p_1.1 l_wishes_here_1) (p_1.2, l_earlier_1) (fun (i_1 : Nat) (s_1 : (List (T5 Int Int (Int × Int) (Int × Int) Bool)) × (List (T3 Er Int (List Int)))) => NW p_1.1 s_1.1 l_wishes_here_1 ∧ EaI s_1.2 (i_1 : Int)) (fun (s_1 : (List (T5 Int Int (Int × Int) (Int × Int) Bool)) × (List (T3 Er Int (List Int)))) => NW p_1.1 s_1.1 l_wishes_here_1 ∧ EaI s_1.2 (((rng 0 (4 : Int).toNat)).length : Int)) (fun (r : Bool) o => fin (.v (.bool r)) o) C (di_range1L de_int ⟨by omega, by omega⟩ rfl T.b_range) (tg_name (ln 6 sc_law.nd)) (by repeat (first | exact Le.nil | refine Le.same ?_ | refine Le.drop ?_)) (by subst e_l_earlier_1; exact ⟨hnw, eaI_0⟩) ?_ (fun _ h => h) ?_ ?_
  · intro i_1 a_1 s_1 ha_1 hi_1
    refine ⟨[.v ((eL PyData.int) l_script), .v ((eL PyData.int) l_draws_here_1), .v (.int p_1.1), .v ((eL (eT5 PyData.int PyData.int (eP PyData.int PyData.int) (eP PyData.int PyData.int) PyData.bool)) s_1.1), .v ((eL (eT4 PyData.int PyData.int (eP PyData.int PyData.int) PyData.bool)) l_wishes_here_1), .o (oL (eT3 (eX A) PyData.int (eL PyData.int)) s_1.2), .v (.int a_1), .no, .no, .no, .no, .no, .no, .no], rfl, ?_⟩
    have hn := hi_1.1
    have hlen := hn.len
    have h6 := hn.six
    have hw6 := hn.w6
    have hwl := hn.wl
    obtain ⟨l_handed_1, e_l_handed_1⟩ : ∃ z : ((List (T5 Int Int (Int × Int) (Int × Int) Bool)) × (List (T4 Int Int (Int × Int) Bool))), z = (s_1.1, l_wishes_here_1) := ⟨_, rfl⟩
    refine ds_then (E' := [.v ((eL PyData.int) l_script), .v ((eL PyData.int) l_draws_here_1), .v (.int p_1.1), .v ((eL (eT5 PyData.int PyData.int (eP PyData.int PyData.int) (eP PyData.int PyData.int) PyData.bool)) s_1.1), .v ((eL (eT4 PyData.int PyData.int (eP PyData.int PyData.int) PyData.bool)) l_wishes_here_1), .o (oL (eT3 (eX A) PyData.int (eL PyData.int)) s_1.2), .v (.int a_1), .v ((eH (eL (eT5 PyData.int PyData.int (eP PyData.int PyData.int) (eP PyData.int PyData.int) PyData.bool)) (eL (eT4 PyData.int PyData.int (eP PyData.int PyData.int) PyData.bool))) l_handed_1), .no, .no, .no, .no, .no, .no]) (ds_set (x := ((eH (eL (eT5 PyData.int PyData.int (eP PyData.int PyData.int) (eP PyData.int PyData.int) PyData.bool)) (eL (eT4 PyData.int PyData.int (eP PyData.int PyData.int) PyData.bool))) l_handed_1)) (ln 7 sc_law.nd) (deC (by subst e_l_handed_1; rfl) (de_hl (f := (eL (eT5 PyData.int PyData.int (eP PyData.int PyData.int) (eP PyData.int PyData.int) PyData.bool))) (g := (eL (eT4 PyData.int PyData.int (eP PyData.int PyData.int) PyData.bool))) (x := s_1.1) (y := l_wishes_here_1) (da_cons (DN.toL (f := (eT5 PyData.int PyData.int (eP PyData.int PyData.int) (eP PyData.int PyData.int) PyData.bool)) (xs := s_1.1) (dn_listL (de_v 3 (pv 3)) rfl T.b_list)) (da_cons (DN.toL (f := (eT4 PyData.int PyData.int (eP PyData.int PyData.int) PyData.bool)) (xs := l_wishes_here_1) (dn_listL (de_v 4 (pv 4)) rfl T.b_list)) da_nil))))) ?_
    have hh : l_handed_1 = (s_1.1, l_wishes_here_1) := e_l_handed_1
    obtain ⟨l_told_1, e_l_told_1⟩ : ∃ z : ((Option Er) × (Option (List (T4 Int Int (Int × Int) Bool)))), z = (m_l_asked (p_1.1, l_handed_1.1) l_handed_1.2) := ⟨_, rfl⟩
    refine ds_then (E' := [.v ((eL PyData.int) l_script), .v ((eL PyData.int) l_draws_here_1), .v (.int p_1.1), .v ((eL (eT5 PyData.int PyData.int (eP PyData.int PyData.int) (eP PyData.int PyData.int) PyData.bool)) s_1.1), .v ((eL (eT4 PyData.int PyData.int (eP PyData.int PyData.int) PyData.bool)) l_wishes_here_1), .o (oL (eT3 (eX A) PyData.int (eL PyData.int)) s_1.2), .v (.int a_1), .v ((eH (eL (eT5 PyData.int PyData.int (eP PyData.int PyData.int) (eP PyData.int PyData.int) PyData.bool)) (eL (eT4 PyData.int PyData.int (eP PyData.int PyData.int) PyData.bool))) l_handed_1), .v ((eH (eO (eX A)) (eO (eL (eT4 PyData.int PyData.int (eP PyData.int PyData.int) PyData.bool)))) l_told_1), .no, .no, .no, .no, .no]) (ds_set (x := ((eH (eO (eX A)) (eO (eL (eT4 PyData.int PyData.int (eP PyData.int PyData.int) PyData.bool)))) l_told_1)) (ln 8 sc_law.nd) (deC (by subst e_l_told_1; rfl) (de_call (f := "_law_asked") (c_l_asked.at hr) rfl (da_cons (de_tup (da_cons (de_v 2 (pv 2)) (da_cons (de_ixH0 (f := (eL (eT5 PyData.int PyData.int (eP PyData.int PyData.int) (eP PyData.int PyData.int) PyData.bool))) (g := (eL (eT4 PyData.int PyData.int (eP PyData.int PyData.int) PyData.bool))) (v := l_handed_1) (de_v 7 (pv 7)) de_int) da_nil))) (da_cons (de_ixH1 (f := (eL (eT5 PyData.int PyData.int (eP PyData.int PyData.int) (eP PyData.int PyData.int) PyData.bool))) (g := (eL (eT4 PyData.int PyData.int (eP PyData.int PyData.int) PyData.bool))) (v := l_handed_1) (de_v 7 (pv 7)) de_int) da_nil)) ⟨(p_1.1, l_handed_1.1), l_handed_1.2, (by first | omega | assumption | exact ⟨_, hi_1.1⟩ | (rw [hh]; show s_1.1.length ≤ 13; omega) | (rw [hh]; exact h6) | exact h6 | exact hw6 _ (by assumption) | decide), (by first | omega | assumption | exact ⟨_, hi_1.1⟩ | (rw [hh]; show s_1.1.length ≤ 13; omega) | (rw [hh]; exact h6) | exact h6 | exact hw6 _ (by assumption) | decide), (by first | omega | assumption | exact ⟨_, hi_1.1⟩ | (rw [hh]; show s_1.1.length ≤ 13; omega) | (rw [hh]; exact h6) | exact h6 | exact hw6 _ (by assumption) | decide), rfl, rfl⟩))) ?_
    have hto : Told s_1.1 l_wishes_here_1 l_told_1 := by rw [e_l_told_1, e_l_handed_1]; exact asked_told hi_1.1
    refine ds_ifr (DW.toT (dw_or (dt_not (dt_val (de_call (f := "_law_good") (c_l_good.at hr) rfl (da_cons (de_v 8 (pv 8)) (da_cons (de_v 3 (pv 3)) (da_cons (de_v 4 (pv 4)) da_nil))) ⟨l_told_1, s_1.1, l_wishes_here_1, (by first | omega | assumption | exact ⟨_, hi_1.1⟩ | (rw [hh]; show s_1.1.length ≤ 13; omega) | (rw [hh]; exact h6) | exact h6 | exact hw6 _ (by assumption) | decide), (by first | omega | assumption | exact ⟨_, hi_1.1⟩ | (rw [hh]; show s_1.1.length ≤ 13; omega) | (rw [hh]; exact h6) | exact h6 | exact hw6 _ (by assumption) | decide), rfl, rfl⟩))) (fun _ => (dw_or1 (dt_neU (x := l_handed_1) (y := (s_1.1, l_wishes_here_1)) hr.units (eqE_H (eqE_L (eqE_T5 eqE_int eqE_int (eqE_P eqE_int eqE_int) (eqE_P eqE_int eqE_int) eqE_bool)) (eqE_L (eqE_T4 eqE_int eqE_int (eqE_P eqE_int eqE_int) eqE_bool))) (de_v 7 (pv 7)) (de_hl (f := (eL (eT5 PyData.int PyData.int (eP PyData.int PyData.int) (eP PyData.int PyData.int) PyData.bool))) (g := (eL (eT4 PyData.int PyData.int (eP PyData.int PyData.int) PyData.bool))) (x := s_1.1) (y := l_wishes_here_1) (da_cons (de_v 3 (pv 3)) (da_cons (de_v 4 (pv 4)) da_nil)))))))) (fun c_1 => ?_) (fun c_1 => ?_)
    · have q_c_1 := c_1
      try simp only [eqD_t, eqD_f, decide_eq_true_eq, decide_eq_false_iff_not, Bool.not_eq_true', Bool.not_eq_false', Bool.and_eq_true, Bool.or_eq_true, Bool.and_eq_false_iff, Bool.or_eq_false_iff, Bool.not_true, Bool.not_false, Bool.not_not, Decidable.not_not] at q_c_1
      exact ds_retD de_bl ⟨false, (by subst e_l_draws_here_1 e_p_1 e_l_wishes_here_1 e_l_earlier_1 e_l_handed_1 e_l_told_1; first | (simp only [l_law_1, c_1, cond_true, cond_false, Bool.not_true, Bool.not_false, goM, goN]; first | done | rfl) | (simp only [l_law_1]; rw [c_1]; first | done | rfl) | (simp only [l_law_1]; (try dsimp only at c_1); (try simp only [c_1, cond_true, cond_false, Bool.not_true, Bool.not_false, goM, goN]); first | done | rfl)), .inl rfl⟩
    have q_c_1 := c_1
    try simp only [eqD_t, eqD_f, decide_eq_true_eq, decide_eq_false_iff_not, Bool.not_eq_true', Bool.not_eq_false', Bool.and_eq_true, Bool.or_eq_true, Bool.and_eq_false_iff, Bool.or_eq_false_iff, Bool.not_true, Bool.not_false, Bool.not_not, Decidable.not_not] at q_c_1
    obtain ⟨l_lacking_1, e_l_lacking_1⟩ : ∃ z : (List (T4 Int Int (Int × Int) Bool)), z = ((l_wishes_here_1.filter (fun (a_2 : (T4 Int Int (Int × Int) Bool)) => (decide ((m_l_listed s_1.1 a_2) = (0 : Int))))).map (fun (a_2 : (T4 Int Int (Int × Int) Bool)) => a_2)) := ⟨_, rfl⟩
    refine ds_then (E' := [.v ((eL PyData.int) l_script), .v ((eL PyData.int) l_draws_here_1), .v (.int p_1.1), .v ((eL (eT5 PyData.int PyData.int (eP PyData.int PyData.int) (eP PyData.int PyData.int) PyData.bool)) s_1.1), .v ((eL (eT4 PyData.int PyData.int (eP PyData.int PyData.int) PyData.bool)) l_wishes_here_1), .o (oL (eT3 (eX A) PyData.int (eL PyData.int)) s_1.2), .v (.int a_1), .v ((eH (eL (eT5 PyData.int PyData.int (eP PyData.int PyData.int) (eP PyData.int PyData.int) PyData.bool)) (eL (eT4 PyData.int PyData.int (eP PyData.int PyData.int) PyData.bool))) l_handed_1), .v ((eH (eO (eX A)) (eO (eL (eT4 PyData.int PyData.int (eP PyData.int PyData.int) PyData.bool)))) l_told_1), .o (oL (eT4 PyData.int PyData.int (eP PyData.int PyData.int) PyData.bool) ((l_wishes_here_1.filter (fun (a_2 : (T4 Int Int (Int × Int) Bool)) => (decide ((m_l_listed s_1.1 a_2) = (0 : Int))))).map (fun (a_2 : (T4 Int Int (Int × Int) Bool)) => a_2))), .no, .no, .no, .no]) (ds_setLcIf (ea := (eT4 PyData.int PyData.int (eP PyData.int PyData.int) PyData.bool)) (eb := (eT4 PyData.int PyData.int (eP PyData.int PyData.int) PyData.bool)) (items := l_wishes_here_1) (fun (a_2 : (T4 Int Int (Int × Int) Bool)) => (decide ((m_l_listed s_1.1 a_2) = (0 : Int)))) (fun (a_2 : (T4 Int Int (Int × Int) Bool)) => a_2) (ln 9 sc_law.nd) rfl (sw_true rfl rfl rfl (by decide +kernel)) rfl (di_list (de_v 4 (pv 4))) (blkOk_by (N := N_law) (sc := defScope s_law) (own := [("_law_wish", 10)]) (by decide +kernel)) (fun _ _ _ _ _ => (tg_name (ln 10 sc_law.nd))) (by rw [sizeLine_eq]; first | omega | (simp only [List.length_map, List.length_append, List.length_cons, List.length_nil, List.length_zip, rng_len]; omega)) (fun a_2 h_a_2 => ⟨[.v ((eL PyData.int) l_script), .v ((eL PyData.int) l_draws_here_1), .v (.int p_1.1), .v ((eL (eT5 PyData.int PyData.int (eP PyData.int PyData.int) (eP PyData.int PyData.int) PyData.bool)) s_1.1), .v ((eL (eT4 PyData.int PyData.int (eP PyData.int PyData.int) PyData.bool)) l_wishes_here_1), .o (oL (eT3 (eX A) PyData.int (eL PyData.int)) s_1.2), .v (.int a_1), .v ((eH (eL (eT5 PyData.int PyData.int (eP PyData.int PyData.int) (eP PyData.int PyData.int) PyData.bool)) (eL (eT4 PyData.int PyData.int (eP PyData.int PyData.int) PyData.bool))) l_handed_1), .v ((eH (eO (eX A)) (eO (eL (eT4 PyData.int PyData.int (eP PyData.int PyData.int) PyData.bool)))) l_told_1), .no, .v ((eT4 PyData.int PyData.int (eP PyData.int PyData.int) PyData.bool) a_2), .no, .no, .no], rfl, fun _ _ _ _ _ => ⟨(dt_eqI (de_call (f := "_law_listed") (c_l_listed.at hr) rfl (da_cons (de_v 3 (pv 3)) (da_cons (de_v 10 (pv 10)) da_nil)) ⟨s_1.1, a_2, (by first | omega | assumption | exact ⟨_, hi_1.1⟩ | (rw [hh]; show s_1.1.length ≤ 13; omega) | (rw [hh]; exact h6) | exact h6 | exact hw6 _ (by assumption) | decide), (by first | omega | assumption | exact ⟨_, hi_1.1⟩ | (rw [hh]; show s_1.1.length ≤ 13; omega) | (rw [hh]; exact h6) | exact h6 | exact hw6 _ (by assumption) | decide), (by first | omega | assumption | exact ⟨_, hi_1.1⟩ | (rw [hh]; show s_1.1.length ≤ 13; omega) | (rw [hh]; exact h6) | exact h6 | exact hw6 _ (by assumption) | decide), rfl, rfl⟩) de_int), fun _ => (de_v 10 (pv 10))⟩⟩)) ?_
    rw [← e_l_lacking_1]
    refine ds_freezeL 9 (E' := [.v ((eL PyData.int) l_script), .v ((eL PyData.int) l_draws_here_1), .v (.int p_1.1), .v ((eL (eT5 PyData.int PyData.int (eP PyData.int PyData.int) (eP PyData.int PyData.int) PyData.bool)) s_1.1), .v ((eL (eT4 PyData.int PyData.int (eP PyData.int PyData.int) PyData.bool)) l_wishes_here_1), .o (oL (eT3 (eX A) PyData.int (eL PyData.int)) s_1.2), .v (.int a_1), .v ((eH (eL (eT5 PyData.int PyData.int (eP PyData.int PyData.int) (eP PyData.int PyData.int) PyData.bool)) (eL (eT4 PyData.int PyData.int (eP PyData.int PyData.int) PyData.bool))) l_handed_1), .v ((eH (eO (eX A)) (eO (eL (eT4 PyData.int PyData.int (eP PyData.int PyData.int) PyData.bool)))) l_told_1), .v ((eL (eT4 PyData.int PyData.int (eP PyData.int PyData.int) PyData.bool)) l_lacking_1), .no, .no, .no, .no]) rfl rfl ?_
    have hlk : l_lacking_1 = lackW s_1.1 l_wishes_here_1 := e_l_lacking_1
    have hn1 : ¬ l_lacking_1 = [] → ∃ k R, (0 ≤ k ∧ k < (l_wishes_here_1.length : Int)) ∧ l_told_1.1 = some ⟨4, k, R⟩ := by rw [hlk]; exact fun z => hto.none_f (lackW_ne z)
    have hnn : ¬ l_lacking_1 = [] → l_told_1.1.isNone = false := fun z => by obtain ⟨k, R, _, e⟩ := hn1 z; rw [e]; rfl
    have hn4 : ¬ l_lacking_1 = [] → (l_told_1.1.getD default).c = 4 := fun z => by obtain ⟨k, R, _, e⟩ := hn1 z; rw [e]; rfl
    obtain ⟨p_2, e_p_2⟩ : ∃ z : (List (T5 Int Int (Int × Int) (Int × Int) Bool)) × (List (T3 Er Int (List Int))), z = (bif (!eqD l_lacking_1 ([] : (List (T4 Int Int (Int × Int) Bool)))) then (let l_earlier_2 := (s_1.2 ++ [(⟨(l_told_1.1.getD default), (l_told_1.1.getD default).n, (l_told_1.1.getD default).r⟩ : (T3 Er Int (List Int)))]); (let l_roads_1 := (m_l_laid s_1.1 (gx l_lacking_1 (0 : Int))); (l_roads_1, l_earlier_2))) else (s_1.1, s_1.2)) := ⟨_, rfl⟩
    try dsimp only at e_p_2
    refine ds_ifl (E' := [.v ((eL PyData.int) l_script), .v ((eL PyData.int) l_draws_here_1), .v (.int p_1.1), .v ((eL (eT5 PyData.int PyData.int (eP PyData.int PyData.int) (eP PyData.int PyData.int) PyData.bool)) p_2.1), .v ((eL (eT4 PyData.int PyData.int (eP PyData.int PyData.int) PyData.bool)) l_wishes_here_1), .o (oL (eT3 (eX A) PyData.int (eL PyData.int)) p_2.2), .v (.int a_1), .v ((eH (eL (eT5 PyData.int PyData.int (eP PyData.int PyData.int) (eP PyData.int PyData.int) PyData.bool)) (eL (eT4 PyData.int PyData.int (eP PyData.int PyData.int) PyData.bool))) l_handed_1), .v ((eH (eO (eX A)) (eO (eL (eT4 PyData.int PyData.int (eP PyData.int PyData.int) PyData.bool)))) l_told_1), .v ((eL (eT4 PyData.int PyData.int (eP PyData.int PyData.int) PyData.bool)) l_lacking_1), .no, .no, .no, .no]) (dt_neU (x := l_lacking_1) (y := ([] : (List (T4 Int Int (Int × Int) Bool)))) hr.units (eqE_L (eqE_T4 eqE_int eqE_int (eqE_P eqE_int eqE_int) eqE_bool)) (de_v 9 (pv 9)) (DN.toL (f := (eT4 PyData.int PyData.int (eP PyData.int PyData.int) PyData.bool)) (xs := ([] : (List (T4 Int Int (Int × Int) Bool)))) (dn_lst da_nil))) (fun c_2 => ?_) (fun c_2 => ?_) ?_
    · have q_c_2 := c_2
      try simp only [eqD_t, eqD_f, decide_eq_true_eq, decide_eq_false_iff_not, Bool.not_eq_true', Bool.not_eq_false', Bool.and_eq_true, Bool.or_eq_true, Bool.and_eq_false_iff, Bool.or_eq_false_iff, Bool.not_true, Bool.not_false, Bool.not_not, Decidable.not_not] at q_c_2
      obtain ⟨l_earlier_2, e_l_earlier_2⟩ : ∃ z : (List (T3 Er Int (List Int))), z = (s_1.2 ++ [(⟨(l_told_1.1.getD default), (l_told_1.1.getD default).n, (l_told_1.1.getD default).r⟩ : (T3 Er Int (List Int)))]) := ⟨_, rfl⟩
      refine ds_then (E' := [.v ((eL PyData.int) l_script), .v ((eL PyData.int) l_draws_here_1), .v (.int p_1.1), .v ((eL (eT5 PyData.int PyData.int (eP PyData.int PyData.int) (eP PyData.int PyData.int) PyData.bool)) s_1.1), .v ((eL (eT4 PyData.int PyData.int (eP PyData.int PyData.int) PyData.bool)) l_wishes_here_1), .o (oL (eT3 (eX A) PyData.int (eL PyData.int)) l_earlier_2), .v (.int a_1), .v ((eH (eL (eT5 PyData.int PyData.int (eP PyData.int PyData.int) (eP PyData.int PyData.int) PyData.bool)) (eL (eT4 PyData.int PyData.int (eP PyData.int PyData.int) PyData.bool))) l_handed_1), .v ((eH (eO (eX A)) (eO (eL (eT4 PyData.int PyData.int (eP PyData.int PyData.int) PyData.bool)))) l_told_1), .v ((eL (eT4 PyData.int PyData.int (eP PyData.int PyData.int) PyData.bool)) l_lacking_1), .no, .no, .no, .no]) (ds_appendL (f := (eT3 (eX A) PyData.int (eL PyData.int))) (v := (⟨(l_told_1.1.getD default), (l_told_1.1.getD default).n, (l_told_1.1.getD default).r⟩ : (T3 Er Int (List Int)))) (xs := s_1.2) (fun _ => pv 5) (de_tup (da_cons (de_unO (f := (eX A)) (o := l_told_1.1) (de_ixH0 (f := (eO (eX A))) (g := (eO (eL (eT4 PyData.int PyData.int (eP PyData.int PyData.int) PyData.bool)))) (v := l_told_1) (de_v 8 (pv 8)) de_int) (by first | assumption | exact hnn q_c_2)) (da_cons (de_wish (A := A) (er := (l_told_1.1.getD default)) (by first | exact hn4 q_c_2 | exact (hi_1.2.each _ (List.mem_of_getElem? ha_2)).1) (by rw [show (l_told_1.1.getD default).c = 4 from (by first | exact hn4 q_c_2 | exact (hi_1.2.each _ (List.mem_of_getElem? ha_2)).1)]; exact T.no_wish) (de_unO (f := (eX A)) (o := l_told_1.1) (de_ixH0 (f := (eO (eX A))) (g := (eO (eL (eT4 PyData.int PyData.int (eP PyData.int PyData.int) PyData.bool)))) (v := l_told_1) (de_v 8 (pv 8)) de_int) (by first | assumption | exact hnn q_c_2))) (da_cons (DN.toL (f := PyData.int) (xs := (l_told_1.1.getD default).r) (dn_listL (de_reached (A := A) (er := (l_told_1.1.getD default)) (by first | exact hn4 q_c_2 | exact (hi_1.2.each _ (List.mem_of_getElem? ha_2)).1) (by rw [show (l_told_1.1.getD default).c = 4 from (by first | exact hn4 q_c_2 | exact (hi_1.2.each _ (List.mem_of_getElem? ha_2)).1)]; exact T.no_reached) (de_unO (f := (eX A)) (o := l_told_1.1) (de_ixH0 (f := (eO (eX A))) (g := (eO (eL (eT4 PyData.int PyData.int (eP PyData.int PyData.int) PyData.bool)))) (v := l_told_1) (de_v 8 (pv 8)) de_int) (by first | assumption | exact hnn q_c_2))) rfl T.b_list)) da_nil)))) rfl (by rw [sizeLine_eq]; (have h8 := hi_1.2.len; have h7 := rng_get ha_1; omega)) (by subst e_l_earlier_2; rfl)) ?_
      obtain ⟨l_roads_1, e_l_roads_1⟩ : ∃ z : (List (T5 Int Int (Int × Int) (Int × Int) Bool)), z = (m_l_laid s_1.1 (gx l_lacking_1 (0 : Int))) := ⟨_, rfl⟩
      refine ds_then (E' := [.v ((eL PyData.int) l_script), .v ((eL PyData.int) l_draws_here_1), .v (.int p_1.1), .v ((eL (eT5 PyData.int PyData.int (eP PyData.int PyData.int) (eP PyData.int PyData.int) PyData.bool)) l_roads_1), .v ((eL (eT4 PyData.int PyData.int (eP PyData.int PyData.int) PyData.bool)) l_wishes_here_1), .o (oL (eT3 (eX A) PyData.int (eL PyData.int)) l_earlier_2), .v (.int a_1), .v ((eH (eL (eT5 PyData.int PyData.int (eP PyData.int PyData.int) (eP PyData.int PyData.int) PyData.bool)) (eL (eT4 PyData.int PyData.int (eP PyData.int PyData.int) PyData.bool))) l_handed_1), .v ((eH (eO (eX A)) (eO (eL (eT4 PyData.int PyData.int (eP PyData.int PyData.int) PyData.bool)))) l_told_1), .v ((eL (eT4 PyData.int PyData.int (eP PyData.int PyData.int) PyData.bool)) l_lacking_1), .no, .no, .no, .no]) (ds_set (x := ((eL (eT5 PyData.int PyData.int (eP PyData.int PyData.int) (eP PyData.int PyData.int) PyData.bool)) l_roads_1)) (ln 3 sc_law.nd) (deC (by subst e_l_roads_1; rfl) (DN.toL (f := (eT5 PyData.int PyData.int (eP PyData.int PyData.int) (eP PyData.int PyData.int) PyData.bool)) (xs := (m_l_laid s_1.1 (gx l_lacking_1 (0 : Int)))) (dn_call (f := "_law_laid") (t := (oL (eT5 PyData.int PyData.int (eP PyData.int PyData.int) (eP PyData.int PyData.int) PyData.bool)) (m_l_laid s_1.1 (gx l_lacking_1 (0 : Int)))) (c_l_laid.at hr) rfl (da_cons (de_v 3 (pv 3)) (da_cons (de_ixL (f := (eT4 PyData.int PyData.int (eP PyData.int PyData.int) PyData.bool)) (xs := l_lacking_1) (i := (0 : Int)) (de_v 9 (pv 9)) de_int (by first | first | exact ⟨by omega, by omega⟩ | (have := List.length_pos_iff.mpr q_c_2; exact ⟨by omega, by omega⟩) | (first | exact ⟨by omega, by omega⟩ | exact inR_mod (by omega) | (unfold inR; simp only [List.length_map, List.length_append, List.length_cons, List.length_nil, List.length_replicate, rng_len, sx_len]; omega)))) da_nil)) ⟨s_1.1, (gx l_lacking_1 (0 : Int)), (by first | omega | assumption | exact ⟨_, hi_1.1⟩ | (rw [hh]; show s_1.1.length ≤ 13; omega) | (rw [hh]; exact h6) | exact h6 | exact hw6 _ (by assumption) | decide), rfl, rfl⟩)))) ?_
      exact ds_nil (by subst e_p_2 e_l_earlier_2 e_l_roads_1; (try simp only [c_1, c_2, cond_true, cond_false, Bool.not_true, Bool.not_false, goM, goN]); (show Le _ _); repeat (first | exact Le.nil | refine Le.same ?_ | refine Le.drop ?_))
    · have q_c_2 := c_2
      try simp only [eqD_t, eqD_f, decide_eq_true_eq, decide_eq_false_iff_not, Bool.not_eq_true', Bool.not_eq_false', Bool.and_eq_true, Bool.or_eq_true, Bool.and_eq_false_iff, Bool.or_eq_false_iff, Bool.not_true, Bool.not_false, Bool.not_not, Decidable.not_not] at q_c_2
      exact ds_nil (by subst e_p_2; (try simp only [c_1, c_2, cond_true, cond_false, Bool.not_true, Bool.not_false, goM, goN]); (show Le _ _); repeat (first | exact Le.nil | refine Le.same ?_ | refine Le.drop ?_))
    exact ds_nil ⟨(p_2.1, p_2.2), (by subst e_l_draws_here_1 e_p_1 e_l_wishes_here_1 e_l_earlier_1 e_l_handed_1 e_l_told_1 e_l_lacking_1 e_p_2; first | (simp only [l_law_1, c_1, cond_true, cond_false, Bool.not_true, Bool.not_false, goM, goN]; first | done | rfl) | (simp only [l_law_1]; rw [c_1]; first | done | rfl) | (simp only [l_law_1]; (try dsimp only at c_1); (try simp only [c_1, cond_true, cond_false, Bool.not_true, Bool.not_false, goM, goN]); first | done | rfl)), (by repeat (first | exact Le.nil | refine Le.same ?_ | refine Le.drop ?_)), (by have hz := go_inv (v := (p_2.1, p_2.2)) (law_turn (a := a_1) hi_1) (by subst e_l_draws_here_1 e_p_1 e_l_wishes_here_1 e_l_earlier_1 e_l_handed_1 e_l_told_1 e_l_lacking_1 e_p_2; first | (simp only [l_law_1, c_1, cond_true, cond_false, Bool.not_true, Bool.not_false, goM, goN]; first | done | rfl) | (simp only [l_law_1]; rw [c_1]; first | done | rfl) | (simp only [l_law_1]; (try dsimp only at c_1); (try simp only [c_1, cond_true, cond_false, Bool.not_true, Bool.not_false, goM, goN]); first | done | rfl)); exact hz)⟩
  · intro r o f_1 ho hr_
    have hm : m_law l_script = r := (by subst e_l_draws_here_1 e_p_1 e_l_wishes_here_1 e_l_earlier_1; simp only [m_law, f_1, goM, cond_true, cond_false, Bool.not_true, Bool.not_false, goM, goN]; try rfl)
    rw [hm]; exact hr_
  intro s_2 f_1 hi_1
  refine ds_freezeL 5 (E' := [.v ((eL PyData.int) l_script), .v ((eL PyData.int) l_draws_here_1), .v (.int p_1.1), .v ((eL (eT5 PyData.int PyData.int (eP PyData.int PyData.int) (eP PyData.int PyData.int) PyData.bool)) s_2.1), .v ((eL (eT4 PyData.int PyData.int (eP PyData.int PyData.int) PyData.bool)) l_wishes_here_1), .v ((eL (eT3 (eX A) PyData.int (eL PyData.int))) s_2.2), .no, .no, .no, .no, .no, .no, .no, .no]) rfl rfl ?_
  refine ds_forG (items := s_2.2) (ea := (eT3 (eX A) PyData.int (eL PyData.int))) (fun (s_3 : Unit) => [.v ((eL PyData.int) l_script), .v ((eL PyData.int) l_draws_here_1), .v (.int p_1.1), .v ((eL (eT5 PyData.int PyData.int (eP PyData.int PyData.int) (eP PyData.int PyData.int) PyData.bool)) s_2.1), .v ((eL (eT4 PyData.int PyData.int (eP PyData.int PyData.int) PyData.bool)) l_wishes_here_1), .v ((eL (eT3 (eX A) PyData.int (eL PyData.int))) s_2.2), .no, .no, .no, .no, .no, .no, .no, .no]) l_law_2 () (fun (i_2 : Nat) (s_3 : Unit) => True) (fun (s_3 : Unit) => True) (fun (r : Bool) o => fin (.v (.bool r)) o) C (di_list (de_v 5 (pv 5))) (tg_tup rfl (tgs_cons (tg_name (ln 11 sc_law.nd)) (tgs_cons (tg_name (ln 12 sc_law.nd)) (tgs_cons (tg_name (ln 13 sc_law.nd)) tgs_nil))) 3 (fcons_len (fcons_len (fcons_len fnil_len)))) (by repeat (first | exact Le.nil | refine Le.same ?_ | refine Le.drop ?_)) (by first | trivial | omega) ?_ (fun _ h => h) ?_ ?_
  · intro i_2 a_3 s_3 ha_2 hi_2
    refine ⟨[.v ((eL PyData.int) l_script), .v ((eL PyData.int) l_draws_here_1), .v (.int p_1.1), .v ((eL (eT5 PyData.int PyData.int (eP PyData.int PyData.int) (eP PyData.int PyData.int) PyData.bool)) s_2.1), .v ((eL (eT4 PyData.int PyData.int (eP PyData.int PyData.int) PyData.bool)) l_wishes_here_1), .v ((eL (eT3 (eX A) PyData.int (eL PyData.int))) s_2.2), .no, .no, .no, .no, .no, .v ((eX A) a_3.a), .v (.int a_3.b), .v ((eL PyData.int) a_3.c)], rfl, ?_⟩
    refine ds_ifr (DW.toT (dw_or (dt_neI (de_wish (A := A) (er := a_3.a) (by first | exact hn4 q_c_2 | exact (hi_1.2.each _ (List.mem_of_getElem? ha_2)).1) (by rw [show a_3.a.c = 4 from (by first | exact hn4 q_c_2 | exact (hi_1.2.each _ (List.mem_of_getElem? ha_2)).1)]; exact T.no_wish) (de_v 11 (pv 11))) (de_v 12 (pv 12))) (fun h_1 => by have q := h_1; (try simp only [eqD_t, eqD_f, decide_eq_true_eq, decide_eq_false_iff_not, Bool.not_eq_true', Bool.not_eq_false', Bool.and_eq_true, Bool.or_eq_true, Bool.and_eq_false_iff, Bool.or_eq_false_iff, Bool.not_true, Bool.not_false, Bool.not_not, Decidable.not_not] at q); exact (dw_or1 (dt_neU (x := a_3.a.r) (y := a_3.c) hr.units (eqE_L eqE_int) (de_reached (A := A) (er := a_3.a) (by first | exact hn4 q_c_2 | exact (hi_1.2.each _ (List.mem_of_getElem? ha_2)).1) (by rw [show a_3.a.c = 4 from (by first | exact hn4 q_c_2 | exact (hi_1.2.each _ (List.mem_of_getElem? ha_2)).1)]; exact T.no_reached) (de_v 11 (pv 11))) (de_v 13 (pv 13))))))) (fun c_3 => ?_) (fun c_3 => ?_)
    · have q_c_3 := c_3
      try simp only [eqD_t, eqD_f, decide_eq_true_eq, decide_eq_false_iff_not, Bool.not_eq_true', Bool.not_eq_false', Bool.and_eq_true, Bool.or_eq_true, Bool.and_eq_false_iff, Bool.or_eq_false_iff, Bool.not_true, Bool.not_false, Bool.not_not, Decidable.not_not] at q_c_3
      exact ds_retD de_bl ⟨false, (by subst e_l_draws_here_1 e_p_1 e_l_wishes_here_1 e_l_earlier_1; first | (simp only [l_law_2, f_1, c_3, cond_true, cond_false, Bool.not_true, Bool.not_false, goM, goN]; first | done | rfl) | (simp only [l_law_2]; rw [f_1, c_3]; first | done | rfl) | (simp only [l_law_2]; (try dsimp only at f_1); (try dsimp only at c_3); (try simp only [f_1, cond_true, cond_false, Bool.not_true, Bool.not_false, goM, goN]); (try simp only [c_3, cond_true, cond_false, Bool.not_true, Bool.not_false, goM, goN]); first | done | rfl)), .inl rfl⟩
    have q_c_3 := c_3
    try simp only [eqD_t, eqD_f, decide_eq_true_eq, decide_eq_false_iff_not, Bool.not_eq_true', Bool.not_eq_false', Bool.and_eq_true, Bool.or_eq_true, Bool.and_eq_false_iff, Bool.or_eq_false_iff, Bool.not_true, Bool.not_false, Bool.not_not, Decidable.not_not] at q_c_3
    exact ds_nil ⟨(), (by subst e_l_draws_here_1 e_p_1 e_l_wishes_here_1 e_l_earlier_1; first | (simp only [l_law_2, f_1, c_3, cond_true, cond_false, Bool.not_true, Bool.not_false, goM, goN]; first | done | rfl) | (simp only [l_law_2]; rw [f_1, c_3]; first | done | rfl) | (simp only [l_law_2]; (try dsimp only at f_1); (try dsimp only at c_3); (try simp only [f_1, cond_true, cond_false, Bool.not_true, Bool.not_false, goM, goN]); (try simp only [c_3, cond_true, cond_false, Bool.not_true, Bool.not_false, goM, goN]); first | done | rfl)), (by repeat (first | exact Le.nil | refine Le.same ?_ | refine Le.drop ?_)), (by first | trivial | omega)⟩
  · intro r o f_2 ho hr_
    have hm : m_law l_script = r := (by subst e_l_draws_here_1 e_p_1 e_l_wishes_here_1 e_l_earlier_1; simp only [m_law, f_2, goM, f_1, cond_true, cond_false, Bool.not_true, Bool.not_false, goM, goN]; try rfl)
    rw [hm]; exact hr_
  intro s_4 f_2 hi_2
  exact ds_retD de_bl (.inl (by subst e_l_draws_here_1 e_p_1 e_l_wishes_here_1 e_l_earlier_1; first | (simp only [m_law, f_1, f_2, cond_true, cond_false, Bool.not_true, Bool.not_false, goM, goN]; first | done | rfl) | (simp only [m_law]; rw [f_1, f_2]; first | done | rfl) | (simp only [m_law]; (try dsimp only at f_1); (try dsimp only at f_2); (try simp only [f_1, cond_true, cond_false, Bool.not_true, Bool.not_false, goM, goN]); (try simp only [f_2, cond_true, cond_false, Bool.not_true, Bool.not_false, goM, goN]); first | done | rfl)))
theorem law_ok {ns : List Int} (hs : ns.length ≤ 63) : m_law ns = true := by
  unfold m_law
  simp only
  have hn := net_ok (m_l_draws ns)
  generalize m_l_net (m_l_draws ns) = net at *
  have hw := wishes_nw (m_l_draws ns) hn
  generalize m_l_wishes (m_l_draws ns) net.1 = ws at *
  obtain ⟨s, e1, h1, h2⟩ := forG_inv (f := l_law_1 net.1 ws) (xs := rng 0 (4 : Int).toNat) (fun i s => NW net.1 s.1 ws ∧ EaI s.2 ((i : Nat) : Int)) (fun i a s ha hi => law_turn hi) (s := (net.2, [])) ⟨hw, eaI_0⟩
  rw [goM_nx e1]
  obtain ⟨u, e2, _⟩ := forG_inv (f := l_law_2) (xs := s.2) (fun _ _ => True) (fun i a t ha _ => by
    obtain ⟨k1, k2, k3⟩ := h2.each a (List.mem_of_getElem? ha)
    refine ⟨(), ?_, trivial⟩
    unfold l_law_2
    rw [k2, k3, decide_eq_true rfl, eqD_self]
    rfl) (s := ()) trivial
  rw [goM_nx e2]
end
theorem all_mk {l : PySem.W.OpenLaw} {w : World} {K : PySem.W.Frag} {h : Heap} {mg : Str → Option Value} {fa : Addr} (X : K.In h) (G : h.Ns mainGlobals mg) (hfa : mg "law" = some (.ref fa))
    {C1 : Addr}
    {C2 : Addr}
    {C3 : Addr}
    {C4 : Addr}
    {C5 : Addr}
    {C6 : Addr}
    {C7 : Addr}
    {C8 : Addr}
    {C9 : Addr}
    {C10 : Addr}
    {tk_MOST_WAYS : Tok}
    {tk_MOST_WISHES : Tok}
    {f_is_whole : Addr} {od_is_whole an_is_whole : Option Addr} {sl_is_whole : Array (Option Value)} {oc_is_whole kV_is_whole dc_is_whole pm_is_whole cd_is_whole ct_is_whole : Value}
    {f_common_part : Addr} {od_common_part an_common_part : Option Addr} {sl_common_part : Array (Option Value)} {oc_common_part kV_common_part dc_common_part pm_common_part cd_common_part ct_common_part : Value}
    {f_is_fraction : Addr} {od_is_fraction an_is_fraction : Option Addr} {sl_is_fraction : Array (Option Value)} {oc_is_fraction kV_is_fraction dc_is_fraction pm_is_fraction cd_is_fraction ct_is_fraction : Value}
    {f_is_place : Addr} {od_is_place an_is_place : Option Addr} {sl_is_place : Array (Option Value)} {oc_is_place kV_is_place dc_is_place pm_is_place cd_is_place ct_is_place : Value}
    {f_two_places : Addr} {od_two_places an_two_places : Option Addr} {sl_two_places : Array (Option Value)} {oc_two_places kV_two_places dc_two_places pm_two_places cd_two_places ct_two_places : Value}
    {f_usable_roads : Addr} {od_usable_roads an_usable_roads : Option Addr} {sl_usable_roads : Array (Option Value)} {oc_usable_roads kV_usable_roads dc_usable_roads pm_usable_roads cd_usable_roads ct_usable_roads : Value}
    {f_reached_from : Addr} {od_reached_from an_reached_from : Option Addr} {sl_reached_from : Array (Option Value)} {oc_reached_from kV_reached_from dc_reached_from pm_reached_from cd_reached_from ct_reached_from : Value}
    {f_ways_between : Addr} {od_ways_between an_ways_between : Option Addr} {sl_ways_between : Array (Option Value)} {oc_ways_between kV_ways_between dc_ways_between pm_ways_between cd_ways_between ct_ways_between : Value}
    {f_ask_way : Addr} {od_ask_way an_ask_way : Option Addr} {sl_ask_way : Array (Option Value)} {oc_ask_way kV_ask_way dc_ask_way pm_ask_way cd_ask_way ct_ask_way : Value}
    {f_wish_fits : Addr} {od_wish_fits an_wish_fits : Option Addr} {sl_wish_fits : Array (Option Value)} {oc_wish_fits kV_wish_fits dc_wish_fits pm_wish_fits cd_wish_fits ct_wish_fits : Value}
    {f_ways_of : Addr} {od_ways_of an_ways_of : Option Addr} {sl_ways_of : Array (Option Value)} {oc_ways_of kV_ways_of dc_ways_of pm_ways_of cd_ways_of ct_ways_of : Value}
    {f_made_wishes : Addr} {od_made_wishes an_made_wishes : Option Addr} {sl_made_wishes : Array (Option Value)} {oc_made_wishes kV_made_wishes dc_made_wishes pm_made_wishes cd_made_wishes ct_made_wishes : Value}
    {f_l_whole : Addr} {od_l_whole an_l_whole : Option Addr} {sl_l_whole : Array (Option Value)} {oc_l_whole kV_l_whole dc_l_whole pm_l_whole cd_l_whole ct_l_whole : Value}
    {f_l_draws : Addr} {od_l_draws an_l_draws : Option Addr} {sl_l_draws : Array (Option Value)} {oc_l_draws kV_l_draws dc_l_draws pm_l_draws cd_l_draws ct_l_draws : Value}
    {f_l_mixed : Addr} {od_l_mixed an_l_mixed : Option Addr} {sl_l_mixed : Array (Option Value)} {oc_l_mixed kV_l_mixed dc_l_mixed pm_l_mixed cd_l_mixed ct_l_mixed : Value}
    {f_l_base : Addr} {od_l_base an_l_base : Option Addr} {sl_l_base : Array (Option Value)} {oc_l_base kV_l_base dc_l_base pm_l_base cd_l_base ct_l_base : Value}
    {f_l_net : Addr} {od_l_net an_l_net : Option Addr} {sl_l_net : Array (Option Value)} {oc_l_net kV_l_net dc_l_net pm_l_net cd_l_net ct_l_net : Value}
    {f_l_wishes : Addr} {od_l_wishes an_l_wishes : Option Addr} {sl_l_wishes : Array (Option Value)} {oc_l_wishes kV_l_wishes dc_l_wishes pm_l_wishes cd_l_wishes ct_l_wishes : Value}
    {f_l_listed : Addr} {od_l_listed an_l_listed : Option Addr} {sl_l_listed : Array (Option Value)} {oc_l_listed kV_l_listed dc_l_listed pm_l_listed cd_l_listed ct_l_listed : Value}
    {f_l_reached : Addr} {od_l_reached an_l_reached : Option Addr} {sl_l_reached : Array (Option Value)} {oc_l_reached kV_l_reached dc_l_reached pm_l_reached cd_l_reached ct_l_reached : Value}
    {f_l_asked : Addr} {od_l_asked an_l_asked : Option Addr} {sl_l_asked : Array (Option Value)} {oc_l_asked kV_l_asked dc_l_asked pm_l_asked cd_l_asked ct_l_asked : Value}
    {f_l_only : Addr} {od_l_only an_l_only : Option Addr} {sl_l_only : Array (Option Value)} {oc_l_only kV_l_only dc_l_only pm_l_only cd_l_only ct_l_only : Value}
    {f_l_good : Addr} {od_l_good an_l_good : Option Addr} {sl_l_good : Array (Option Value)} {oc_l_good kV_l_good dc_l_good pm_l_good cd_l_good ct_l_good : Value}
    {f_l_laid : Addr} {od_l_laid an_l_laid : Option Addr} {sl_l_laid : Array (Option Value)} {oc_l_laid kV_l_laid dc_l_laid pm_l_laid cd_l_laid ct_l_laid : Value}
    {f_law : Addr} {od_law an_law : Option Addr} {sl_law : Array (Option Value)} {oc_law kV_law dc_law pm_law cd_law ct_law : Value}
    {f_NoWay_init : Addr} {od_NoWay_init an_NoWay_init : Option Addr} {sl_NoWay_init : Array (Option Value)} {oc_NoWay_init kV_NoWay_init dc_NoWay_init pm_NoWay_init cd_NoWay_init ct_NoWay_init : Value}
    {f_NoText_init : Addr} {od_NoText_init an_NoText_init : Option Addr} {sl_NoText_init : Array (Option Value)} {oc_NoText_init kV_NoText_init dc_NoText_init pm_NoText_init cd_NoText_init ct_NoText_init : Value}
    (g1 : PySem.W.nsIn K mainGlobals "NoNumber" = some (some (.ref C1)))
    (g2 : PySem.W.nsIn K mainGlobals "NoNet" = some (some (.ref C2)))
    (g3 : PySem.W.nsIn K mainGlobals "NoWish" = some (some (.ref C3)))
    (g4 : PySem.W.nsIn K mainGlobals "NoWay" = some (some (.ref C4)))
    (g5 : PySem.W.nsIn K mainGlobals "TooMany" = some (some (.ref C5)))
    (g6 : PySem.W.nsIn K mainGlobals "NoShare" = some (some (.ref C6)))
    (g7 : PySem.W.nsIn K mainGlobals "NoStep" = some (some (.ref C7)))
    (g8 : PySem.W.nsIn K mainGlobals "NoSuch" = some (some (.ref C8)))
    (g9 : PySem.W.nsIn K mainGlobals "NoText" = some (some (.ref C9)))
    (g10 : PySem.W.nsIn K mainGlobals "RoadError" = some (some (.ref C10)))
    (z_ValueError : PySem.W.nsIn K mainGlobals "ValueError" = some none)
    (z_abs : PySem.W.nsIn K mainGlobals "abs" = some none)
    (z_bool : PySem.W.nsIn K mainGlobals "bool" = some none)
    (z_enumerate : PySem.W.nsIn K mainGlobals "enumerate" = some none)
    (z_int : PySem.W.nsIn K mainGlobals "int" = some none)
    (z_isinstance : PySem.W.nsIn K mainGlobals "isinstance" = some none)
    (z_len : PySem.W.nsIn K mainGlobals "len" = some none)
    (z_list : PySem.W.nsIn K mainGlobals "list" = some none)
    (z_max : PySem.W.nsIn K mainGlobals "max" = some none)
    (z_range : PySem.W.nsIn K mainGlobals "range" = some none)
    (z_sorted : PySem.W.nsIn K mainGlobals "sorted" = some none)
    (z_sum : PySem.W.nsIn K mainGlobals "sum" = some none)
    (z_tuple : PySem.W.nsIn K mainGlobals "tuple" = some none)
    (x3 : PySem.W.excIn K C3 [.type "ValueError", .type "Exception", .type "BaseException", .type "object"] "ValueError.__new__" = true)
    (xk3 : PySem.W.keepIn K (.ref C3) = true)
    (xb3 : PySem.W.subIn K (.ref C3) (.type "BaseException") = some true)
    (xt3 : PySem.W.typeIn K (.ref C3) = some (.type "type"))
    (x5 : PySem.W.excIn K C5 [.type "ValueError", .type "Exception", .type "BaseException", .type "object"] "ValueError.__new__" = true)
    (xk5 : PySem.W.keepIn K (.ref C5) = true)
    (xb5 : PySem.W.subIn K (.ref C5) (.type "BaseException") = some true)
    (xt5 : PySem.W.typeIn K (.ref C5) = some (.type "type"))
    (k_MOST_WAYS : PySem.W.nsIn K mainGlobals "MOST_WAYS" = some (some (.int 10 tk_MOST_WAYS)))
    (k_MOST_WISHES : PySem.W.nsIn K mainGlobals "MOST_WISHES" = some (some (.int 3 tk_MOST_WISHES)))
    (a_is_whole : PySem.W.nsIn K mainGlobals "is_whole" = some (some (.ref f_is_whole)))
    (l_is_whole : K.lookup f_is_whole = some ⟨oc_is_whole, od_is_whole, .func (PySem.W.fnOf "is_whole" "is_whole" (defArgs s_is_whole) (defBody s_is_whole) (defScope s_is_whole) .none kV_is_whole dc_is_whole pm_is_whole an_is_whole cd_is_whole ct_is_whole), sl_is_whole⟩)
    (c_is_whole : PySem.W.codeIn K cd_is_whole "is_whole" = true)
    (k_is_whole : PySem.W.keepIn K (.ref f_is_whole) = true)
    (a_common_part : PySem.W.nsIn K mainGlobals "common_part" = some (some (.ref f_common_part)))
    (l_common_part : K.lookup f_common_part = some ⟨oc_common_part, od_common_part, .func (PySem.W.fnOf "common_part" "common_part" (defArgs s_common_part) (defBody s_common_part) (defScope s_common_part) .none kV_common_part dc_common_part pm_common_part an_common_part cd_common_part ct_common_part), sl_common_part⟩)
    (c_common_part : PySem.W.codeIn K cd_common_part "common_part" = true)
    (k_common_part : PySem.W.keepIn K (.ref f_common_part) = true)
    (a_is_fraction : PySem.W.nsIn K mainGlobals "is_fraction" = some (some (.ref f_is_fraction)))
    (l_is_fraction : K.lookup f_is_fraction = some ⟨oc_is_fraction, od_is_fraction, .func (PySem.W.fnOf "is_fraction" "is_fraction" (defArgs s_is_fraction) (defBody s_is_fraction) (defScope s_is_fraction) .none kV_is_fraction dc_is_fraction pm_is_fraction an_is_fraction cd_is_fraction ct_is_fraction), sl_is_fraction⟩)
    (c_is_fraction : PySem.W.codeIn K cd_is_fraction "is_fraction" = true)
    (k_is_fraction : PySem.W.keepIn K (.ref f_is_fraction) = true)
    (a_is_place : PySem.W.nsIn K mainGlobals "is_place" = some (some (.ref f_is_place)))
    (l_is_place : K.lookup f_is_place = some ⟨oc_is_place, od_is_place, .func (PySem.W.fnOf "is_place" "is_place" (defArgs s_is_place) (defBody s_is_place) (defScope s_is_place) .none kV_is_place dc_is_place pm_is_place an_is_place cd_is_place ct_is_place), sl_is_place⟩)
    (c_is_place : PySem.W.codeIn K cd_is_place "is_place" = true)
    (k_is_place : PySem.W.keepIn K (.ref f_is_place) = true)
    (a_two_places : PySem.W.nsIn K mainGlobals "two_places" = some (some (.ref f_two_places)))
    (l_two_places : K.lookup f_two_places = some ⟨oc_two_places, od_two_places, .func (PySem.W.fnOf "two_places" "two_places" (defArgs s_two_places) (defBody s_two_places) (defScope s_two_places) .none kV_two_places dc_two_places pm_two_places an_two_places cd_two_places ct_two_places), sl_two_places⟩)
    (c_two_places : PySem.W.codeIn K cd_two_places "two_places" = true)
    (k_two_places : PySem.W.keepIn K (.ref f_two_places) = true)
    (a_usable_roads : PySem.W.nsIn K mainGlobals "usable_roads" = some (some (.ref f_usable_roads)))
    (l_usable_roads : K.lookup f_usable_roads = some ⟨oc_usable_roads, od_usable_roads, .func (PySem.W.fnOf "usable_roads" "usable_roads" (defArgs s_usable_roads) (defBody s_usable_roads) (defScope s_usable_roads) .none kV_usable_roads dc_usable_roads pm_usable_roads an_usable_roads cd_usable_roads ct_usable_roads), sl_usable_roads⟩)
    (c_usable_roads : PySem.W.codeIn K cd_usable_roads "usable_roads" = true)
    (k_usable_roads : PySem.W.keepIn K (.ref f_usable_roads) = true)
    (a_reached_from : PySem.W.nsIn K mainGlobals "reached_from" = some (some (.ref f_reached_from)))
    (l_reached_from : K.lookup f_reached_from = some ⟨oc_reached_from, od_reached_from, .func (PySem.W.fnOf "reached_from" "reached_from" (defArgs s_reached_from) (defBody s_reached_from) (defScope s_reached_from) .none kV_reached_from dc_reached_from pm_reached_from an_reached_from cd_reached_from ct_reached_from), sl_reached_from⟩)
    (c_reached_from : PySem.W.codeIn K cd_reached_from "reached_from" = true)
    (k_reached_from : PySem.W.keepIn K (.ref f_reached_from) = true)
    (a_ways_between : PySem.W.nsIn K mainGlobals "ways_between" = some (some (.ref f_ways_between)))
    (l_ways_between : K.lookup f_ways_between = some ⟨oc_ways_between, od_ways_between, .func (PySem.W.fnOf "ways_between" "ways_between" (defArgs s_ways_between) (defBody s_ways_between) (defScope s_ways_between) .none kV_ways_between dc_ways_between pm_ways_between an_ways_between cd_ways_between ct_ways_between), sl_ways_between⟩)
    (c_ways_between : PySem.W.codeIn K cd_ways_between "ways_between" = true)
    (k_ways_between : PySem.W.keepIn K (.ref f_ways_between) = true)
    (a_ask_way : PySem.W.nsIn K mainGlobals "ask_way" = some (some (.ref f_ask_way)))
    (l_ask_way : K.lookup f_ask_way = some ⟨oc_ask_way, od_ask_way, .func (PySem.W.fnOf "ask_way" "ask_way" (defArgs s_ask_way) (defBody s_ask_way) (defScope s_ask_way) .none kV_ask_way dc_ask_way pm_ask_way an_ask_way cd_ask_way ct_ask_way), sl_ask_way⟩)
    (c_ask_way : PySem.W.codeIn K cd_ask_way "ask_way" = true)
    (k_ask_way : PySem.W.keepIn K (.ref f_ask_way) = true)
    (a_wish_fits : PySem.W.nsIn K mainGlobals "wish_fits" = some (some (.ref f_wish_fits)))
    (l_wish_fits : K.lookup f_wish_fits = some ⟨oc_wish_fits, od_wish_fits, .func (PySem.W.fnOf "wish_fits" "wish_fits" (defArgs s_wish_fits) (defBody s_wish_fits) (defScope s_wish_fits) .none kV_wish_fits dc_wish_fits pm_wish_fits an_wish_fits cd_wish_fits ct_wish_fits), sl_wish_fits⟩)
    (c_wish_fits : PySem.W.codeIn K cd_wish_fits "wish_fits" = true)
    (k_wish_fits : PySem.W.keepIn K (.ref f_wish_fits) = true)
    (a_ways_of : PySem.W.nsIn K mainGlobals "ways_of" = some (some (.ref f_ways_of)))
    (l_ways_of : K.lookup f_ways_of = some ⟨oc_ways_of, od_ways_of, .func (PySem.W.fnOf "ways_of" "ways_of" (defArgs s_ways_of) (defBody s_ways_of) (defScope s_ways_of) .none kV_ways_of dc_ways_of pm_ways_of an_ways_of cd_ways_of ct_ways_of), sl_ways_of⟩)
    (c_ways_of : PySem.W.codeIn K cd_ways_of "ways_of" = true)
    (k_ways_of : PySem.W.keepIn K (.ref f_ways_of) = true)
    (a_made_wishes : PySem.W.nsIn K mainGlobals "made_wishes" = some (some (.ref f_made_wishes)))
    (l_made_wishes : K.lookup f_made_wishes = some ⟨oc_made_wishes, od_made_wishes, .func (PySem.W.fnOf "made_wishes" "made_wishes" (defArgs s_made_wishes) (defBody s_made_wishes) (defScope s_made_wishes) .none kV_made_wishes dc_made_wishes pm_made_wishes an_made_wishes cd_made_wishes ct_made_wishes), sl_made_wishes⟩)
    (c_made_wishes : PySem.W.codeIn K cd_made_wishes "made_wishes" = true)
    (k_made_wishes : PySem.W.keepIn K (.ref f_made_wishes) = true)
    (a_l_whole : PySem.W.nsIn K mainGlobals "_law_whole" = some (some (.ref f_l_whole)))
    (l_l_whole : K.lookup f_l_whole = some ⟨oc_l_whole, od_l_whole, .func (PySem.W.fnOf "_law_whole" "_law_whole" (defArgs s_l_whole) (defBody s_l_whole) (defScope s_l_whole) .none kV_l_whole dc_l_whole pm_l_whole an_l_whole cd_l_whole ct_l_whole), sl_l_whole⟩)
    (c_l_whole : PySem.W.codeIn K cd_l_whole "_law_whole" = true)
    (k_l_whole : PySem.W.keepIn K (.ref f_l_whole) = true)
    (a_l_draws : PySem.W.nsIn K mainGlobals "_law_draws" = some (some (.ref f_l_draws)))
    (l_l_draws : K.lookup f_l_draws = some ⟨oc_l_draws, od_l_draws, .func (PySem.W.fnOf "_law_draws" "_law_draws" (defArgs s_l_draws) (defBody s_l_draws) (defScope s_l_draws) .none kV_l_draws dc_l_draws pm_l_draws an_l_draws cd_l_draws ct_l_draws), sl_l_draws⟩)
    (c_l_draws : PySem.W.codeIn K cd_l_draws "_law_draws" = true)
    (k_l_draws : PySem.W.keepIn K (.ref f_l_draws) = true)
    (a_l_mixed : PySem.W.nsIn K mainGlobals "_law_mixed" = some (some (.ref f_l_mixed)))
    (l_l_mixed : K.lookup f_l_mixed = some ⟨oc_l_mixed, od_l_mixed, .func (PySem.W.fnOf "_law_mixed" "_law_mixed" (defArgs s_l_mixed) (defBody s_l_mixed) (defScope s_l_mixed) .none kV_l_mixed dc_l_mixed pm_l_mixed an_l_mixed cd_l_mixed ct_l_mixed), sl_l_mixed⟩)
    (c_l_mixed : PySem.W.codeIn K cd_l_mixed "_law_mixed" = true)
    (k_l_mixed : PySem.W.keepIn K (.ref f_l_mixed) = true)
    (a_l_base : PySem.W.nsIn K mainGlobals "_law_base" = some (some (.ref f_l_base)))
    (l_l_base : K.lookup f_l_base = some ⟨oc_l_base, od_l_base, .func (PySem.W.fnOf "_law_base" "_law_base" (defArgs s_l_base) (defBody s_l_base) (defScope s_l_base) .none kV_l_base dc_l_base pm_l_base an_l_base cd_l_base ct_l_base), sl_l_base⟩)
    (c_l_base : PySem.W.codeIn K cd_l_base "_law_base" = true)
    (k_l_base : PySem.W.keepIn K (.ref f_l_base) = true)
    (a_l_net : PySem.W.nsIn K mainGlobals "_law_net" = some (some (.ref f_l_net)))
    (l_l_net : K.lookup f_l_net = some ⟨oc_l_net, od_l_net, .func (PySem.W.fnOf "_law_net" "_law_net" (defArgs s_l_net) (defBody s_l_net) (defScope s_l_net) .none kV_l_net dc_l_net pm_l_net an_l_net cd_l_net ct_l_net), sl_l_net⟩)
    (c_l_net : PySem.W.codeIn K cd_l_net "_law_net" = true)
    (k_l_net : PySem.W.keepIn K (.ref f_l_net) = true)
    (a_l_wishes : PySem.W.nsIn K mainGlobals "_law_wishes" = some (some (.ref f_l_wishes)))
    (l_l_wishes : K.lookup f_l_wishes = some ⟨oc_l_wishes, od_l_wishes, .func (PySem.W.fnOf "_law_wishes" "_law_wishes" (defArgs s_l_wishes) (defBody s_l_wishes) (defScope s_l_wishes) .none kV_l_wishes dc_l_wishes pm_l_wishes an_l_wishes cd_l_wishes ct_l_wishes), sl_l_wishes⟩)
    (c_l_wishes : PySem.W.codeIn K cd_l_wishes "_law_wishes" = true)
    (k_l_wishes : PySem.W.keepIn K (.ref f_l_wishes) = true)
    (a_l_listed : PySem.W.nsIn K mainGlobals "_law_listed" = some (some (.ref f_l_listed)))
    (l_l_listed : K.lookup f_l_listed = some ⟨oc_l_listed, od_l_listed, .func (PySem.W.fnOf "_law_listed" "_law_listed" (defArgs s_l_listed) (defBody s_l_listed) (defScope s_l_listed) .none kV_l_listed dc_l_listed pm_l_listed an_l_listed cd_l_listed ct_l_listed), sl_l_listed⟩)
    (c_l_listed : PySem.W.codeIn K cd_l_listed "_law_listed" = true)
    (k_l_listed : PySem.W.keepIn K (.ref f_l_listed) = true)
    (a_l_reached : PySem.W.nsIn K mainGlobals "_law_reached" = some (some (.ref f_l_reached)))
    (l_l_reached : K.lookup f_l_reached = some ⟨oc_l_reached, od_l_reached, .func (PySem.W.fnOf "_law_reached" "_law_reached" (defArgs s_l_reached) (defBody s_l_reached) (defScope s_l_reached) .none kV_l_reached dc_l_reached pm_l_reached an_l_reached cd_l_reached ct_l_reached), sl_l_reached⟩)
    (c_l_reached : PySem.W.codeIn K cd_l_reached "_law_reached" = true)
    (k_l_reached : PySem.W.keepIn K (.ref f_l_reached) = true)
    (a_l_asked : PySem.W.nsIn K mainGlobals "_law_asked" = some (some (.ref f_l_asked)))
    (l_l_asked : K.lookup f_l_asked = some ⟨oc_l_asked, od_l_asked, .func (PySem.W.fnOf "_law_asked" "_law_asked" (defArgs s_l_asked) (defBody s_l_asked) (defScope s_l_asked) .none kV_l_asked dc_l_asked pm_l_asked an_l_asked cd_l_asked ct_l_asked), sl_l_asked⟩)
    (c_l_asked : PySem.W.codeIn K cd_l_asked "_law_asked" = true)
    (k_l_asked : PySem.W.keepIn K (.ref f_l_asked) = true)
    (a_l_only : PySem.W.nsIn K mainGlobals "_law_only" = some (some (.ref f_l_only)))
    (l_l_only : K.lookup f_l_only = some ⟨oc_l_only, od_l_only, .func (PySem.W.fnOf "_law_only" "_law_only" (defArgs s_l_only) (defBody s_l_only) (defScope s_l_only) .none kV_l_only dc_l_only pm_l_only an_l_only cd_l_only ct_l_only), sl_l_only⟩)
    (c_l_only : PySem.W.codeIn K cd_l_only "_law_only" = true)
    (k_l_only : PySem.W.keepIn K (.ref f_l_only) = true)
    (a_l_good : PySem.W.nsIn K mainGlobals "_law_good" = some (some (.ref f_l_good)))
    (l_l_good : K.lookup f_l_good = some ⟨oc_l_good, od_l_good, .func (PySem.W.fnOf "_law_good" "_law_good" (defArgs s_l_good) (defBody s_l_good) (defScope s_l_good) .none kV_l_good dc_l_good pm_l_good an_l_good cd_l_good ct_l_good), sl_l_good⟩)
    (c_l_good : PySem.W.codeIn K cd_l_good "_law_good" = true)
    (k_l_good : PySem.W.keepIn K (.ref f_l_good) = true)
    (a_l_laid : PySem.W.nsIn K mainGlobals "_law_laid" = some (some (.ref f_l_laid)))
    (l_l_laid : K.lookup f_l_laid = some ⟨oc_l_laid, od_l_laid, .func (PySem.W.fnOf "_law_laid" "_law_laid" (defArgs s_l_laid) (defBody s_l_laid) (defScope s_l_laid) .none kV_l_laid dc_l_laid pm_l_laid an_l_laid cd_l_laid ct_l_laid), sl_l_laid⟩)
    (c_l_laid : PySem.W.codeIn K cd_l_laid "_law_laid" = true)
    (k_l_laid : PySem.W.keepIn K (.ref f_l_laid) = true)
    (a_law : PySem.W.nsIn K mainGlobals "law" = some (some (.ref f_law)))
    (l_law : K.lookup f_law = some ⟨oc_law, od_law, .func (PySem.W.fnOf "law" "law" (defArgs s_law) (defBody s_law) (defScope s_law) .none kV_law dc_law pm_law an_law cd_law ct_law), sl_law⟩)
    (c_law : PySem.W.codeIn K cd_law "law" = true)
    (k_law : PySem.W.keepIn K (.ref f_law) = true)
    (hg3 : PySem.W.findIn K (.ref C3) "__getattribute__" = some (some (.builtin "BaseException.__getattribute__")))
    (hk3 : PySem.W.findIn K (.ref C3) "__getattr__" = some none)
    (hs3 : PySem.W.subIn K (.ref C3) (.type "BaseException") = some true)
    (hd3 : PySem.W.hasDictIn K C3 = true)
    (ha3 : PySem.W.findIn K (.ref C3) "__class__" = some (some (.builtin "object.__class__")))
    (hn3 : PySem.W.specialIn K (.builtin "object.__class__") "__get__" = some (some (.builtin "getset_descriptor.__get__")))
    (ht3 : PySem.W.takesIn K (.builtin "object.__class__") = some true)
    (hm3 : PySem.W.mroIn K C3 (.type "object") = some true)
    (ia3 : PySem.W.subIn K (.ref C3) (.type "int") = some false)
    (ib3 : PySem.W.subIn K (.ref C3) (.type "bool") = some false)
    (ic3 : PySem.W.subIn K (.ref C3) (.type "tuple") = some false)
    (id3 : PySem.W.subIn K (.ref C3) (.type "list") = some false)
    (ie3 : PySem.W.subIn K (.ref C3) (.type "str") = some false)
    (sv3 : PySem.W.subIn K (.ref C3) (.type "ValueError") = some true)
    (sb3_10 : PySem.W.subIn K (.ref C3) (.ref C10) = some true)
    (ci2 : PySem.W.isClsIn K C2 = true)
    (ct2 : PySem.W.typeIn K (.ref C2) = some (.type "type"))
    (sb3_2 : PySem.W.subIn K (.ref C3) (.ref C2) = some false)
    (ne3_2 : (Value.ref C3 == Value.ref C2) = false)
    (ci1 : PySem.W.isClsIn K C1 = true)
    (ct1 : PySem.W.typeIn K (.ref C1) = some (.type "type"))
    (sb3_1 : PySem.W.subIn K (.ref C3) (.ref C1) = some false)
    (ne3_1 : (Value.ref C3 == Value.ref C1) = false)
    (ci6 : PySem.W.isClsIn K C6 = true)
    (ct6 : PySem.W.typeIn K (.ref C6) = some (.type "type"))
    (sb3_6 : PySem.W.subIn K (.ref C3) (.ref C6) = some false)
    (ne3_6 : (Value.ref C3 == Value.ref C6) = false)
    (ci7 : PySem.W.isClsIn K C7 = true)
    (ct7 : PySem.W.typeIn K (.ref C7) = some (.type "type"))
    (sb3_7 : PySem.W.subIn K (.ref C3) (.ref C7) = some false)
    (ne3_7 : (Value.ref C3 == Value.ref C7) = false)
    (ci8 : PySem.W.isClsIn K C8 = true)
    (ct8 : PySem.W.typeIn K (.ref C8) = some (.type "type"))
    (sb3_8 : PySem.W.subIn K (.ref C3) (.ref C8) = some false)
    (ne3_8 : (Value.ref C3 == Value.ref C8) = false)
    (ci9 : PySem.W.isClsIn K C9 = true)
    (ct9 : PySem.W.typeIn K (.ref C9) = some (.type "type"))
    (sb3_9 : PySem.W.subIn K (.ref C3) (.ref C9) = some false)
    (ne3_9 : (Value.ref C3 == Value.ref C9) = false)
    (ci4 : PySem.W.isClsIn K C4 = true)
    (ct4 : PySem.W.typeIn K (.ref C4) = some (.type "type"))
    (sb3_4 : PySem.W.subIn K (.ref C3) (.ref C4) = some false)
    (ne3_4 : (Value.ref C3 == Value.ref C4) = false)
    (ci3 : PySem.W.isClsIn K C3 = true)
    (ct3 : PySem.W.typeIn K (.ref C3) = some (.type "type"))
    (sb3_3 : PySem.W.subIn K (.ref C3) (.ref C3) = some true)
    (ci5 : PySem.W.isClsIn K C5 = true)
    (ct5 : PySem.W.typeIn K (.ref C5) = some (.type "type"))
    (sb3_5 : PySem.W.subIn K (.ref C3) (.ref C5) = some false)
    (ne3_5 : (Value.ref C3 == Value.ref C5) = false)
    (hg4 : PySem.W.findIn K (.ref C4) "__getattribute__" = some (some (.builtin "BaseException.__getattribute__")))
    (hk4 : PySem.W.findIn K (.ref C4) "__getattr__" = some none)
    (hs4 : PySem.W.subIn K (.ref C4) (.type "BaseException") = some true)
    (hd4 : PySem.W.hasDictIn K C4 = true)
    (ha4 : PySem.W.findIn K (.ref C4) "__class__" = some (some (.builtin "object.__class__")))
    (hn4 : PySem.W.specialIn K (.builtin "object.__class__") "__get__" = some (some (.builtin "getset_descriptor.__get__")))
    (ht4 : PySem.W.takesIn K (.builtin "object.__class__") = some true)
    (hm4 : PySem.W.mroIn K C4 (.type "object") = some true)
    (ia4 : PySem.W.subIn K (.ref C4) (.type "int") = some false)
    (ib4 : PySem.W.subIn K (.ref C4) (.type "bool") = some false)
    (ic4 : PySem.W.subIn K (.ref C4) (.type "tuple") = some false)
    (id4 : PySem.W.subIn K (.ref C4) (.type "list") = some false)
    (ie4 : PySem.W.subIn K (.ref C4) (.type "str") = some false)
    (sv4 : PySem.W.subIn K (.ref C4) (.type "ValueError") = some true)
    (sb4_10 : PySem.W.subIn K (.ref C4) (.ref C10) = some true)
    (sb4_2 : PySem.W.subIn K (.ref C4) (.ref C2) = some false)
    (ne4_2 : (Value.ref C4 == Value.ref C2) = false)
    (sb4_1 : PySem.W.subIn K (.ref C4) (.ref C1) = some false)
    (ne4_1 : (Value.ref C4 == Value.ref C1) = false)
    (sb4_6 : PySem.W.subIn K (.ref C4) (.ref C6) = some false)
    (ne4_6 : (Value.ref C4 == Value.ref C6) = false)
    (sb4_7 : PySem.W.subIn K (.ref C4) (.ref C7) = some false)
    (ne4_7 : (Value.ref C4 == Value.ref C7) = false)
    (sb4_8 : PySem.W.subIn K (.ref C4) (.ref C8) = some false)
    (ne4_8 : (Value.ref C4 == Value.ref C8) = false)
    (sb4_9 : PySem.W.subIn K (.ref C4) (.ref C9) = some false)
    (ne4_9 : (Value.ref C4 == Value.ref C9) = false)
    (sb4_4 : PySem.W.subIn K (.ref C4) (.ref C4) = some true)
    (sb4_3 : PySem.W.subIn K (.ref C4) (.ref C3) = some false)
    (ne4_3 : (Value.ref C4 == Value.ref C3) = false)
    (sb4_5 : PySem.W.subIn K (.ref C4) (.ref C5) = some false)
    (ne4_5 : (Value.ref C4 == Value.ref C5) = false)
    (hg5 : PySem.W.findIn K (.ref C5) "__getattribute__" = some (some (.builtin "BaseException.__getattribute__")))
    (hk5 : PySem.W.findIn K (.ref C5) "__getattr__" = some none)
    (hs5 : PySem.W.subIn K (.ref C5) (.type "BaseException") = some true)
    (hd5 : PySem.W.hasDictIn K C5 = true)
    (ha5 : PySem.W.findIn K (.ref C5) "__class__" = some (some (.builtin "object.__class__")))
    (hn5 : PySem.W.specialIn K (.builtin "object.__class__") "__get__" = some (some (.builtin "getset_descriptor.__get__")))
    (ht5 : PySem.W.takesIn K (.builtin "object.__class__") = some true)
    (hm5 : PySem.W.mroIn K C5 (.type "object") = some true)
    (ia5 : PySem.W.subIn K (.ref C5) (.type "int") = some false)
    (ib5 : PySem.W.subIn K (.ref C5) (.type "bool") = some false)
    (ic5 : PySem.W.subIn K (.ref C5) (.type "tuple") = some false)
    (id5 : PySem.W.subIn K (.ref C5) (.type "list") = some false)
    (ie5 : PySem.W.subIn K (.ref C5) (.type "str") = some false)
    (sv5 : PySem.W.subIn K (.ref C5) (.type "ValueError") = some true)
    (sb5_10 : PySem.W.subIn K (.ref C5) (.ref C10) = some true)
    (sb5_2 : PySem.W.subIn K (.ref C5) (.ref C2) = some false)
    (ne5_2 : (Value.ref C5 == Value.ref C2) = false)
    (sb5_1 : PySem.W.subIn K (.ref C5) (.ref C1) = some false)
    (ne5_1 : (Value.ref C5 == Value.ref C1) = false)
    (sb5_6 : PySem.W.subIn K (.ref C5) (.ref C6) = some false)
    (ne5_6 : (Value.ref C5 == Value.ref C6) = false)
    (sb5_7 : PySem.W.subIn K (.ref C5) (.ref C7) = some false)
    (ne5_7 : (Value.ref C5 == Value.ref C7) = false)
    (sb5_8 : PySem.W.subIn K (.ref C5) (.ref C8) = some false)
    (ne5_8 : (Value.ref C5 == Value.ref C8) = false)
    (sb5_9 : PySem.W.subIn K (.ref C5) (.ref C9) = some false)
    (ne5_9 : (Value.ref C5 == Value.ref C9) = false)
    (sb5_4 : PySem.W.subIn K (.ref C5) (.ref C4) = some false)
    (ne5_4 : (Value.ref C5 == Value.ref C4) = false)
    (sb5_3 : PySem.W.subIn K (.ref C5) (.ref C3) = some false)
    (ne5_3 : (Value.ref C5 == Value.ref C3) = false)
    (sb5_5 : PySem.W.subIn K (.ref C5) (.ref C5) = some true)
    (ci10 : PySem.W.isClsIn K C10 = true)
    (ct10 : PySem.W.typeIn K (.ref C10) = some (.type "type"))
    (be10 : PySem.W.subIn K (.ref C10) (.type "BaseException") = some true)
    (no_wish : PySem.W.findIn K (.ref C4) "wish" = some none)
    (no_reached : PySem.W.findIn K (.ref C4) "reached" = some none)
    (r1 : PySem.W.specialIn K (.ref C10) "__getattribute__" = some (some (.builtin "type.__getattribute__")))
    (r2 : PySem.W.readsIn K C10 (.type "type") = true)
    (r3 : PySem.W.findCls K (.ref C10) (.type "type") "__init__" = some (.val (.builtin "ValueError.__init__")))
    (oc4 : OexCls K C4)
    (os4 : PySem.W.findIn K (.ref C4) "__setattr__" = some (some (.builtin "object.__setattr__")))
    (xk4 : PySem.W.keepIn K (.ref C4) = true)
    (oi4 : PySem.W.findIn K (.ref C4) "__init__" = some (some (.ref f_NoWay_init)))
    (ot4 : PySem.W.typeIn K (.ref f_NoWay_init) = some (.type "function"))
    (l_NoWay_init : K.lookup f_NoWay_init = some ⟨oc_NoWay_init, od_NoWay_init, .func (PySem.W.fnOf "__init__" "NoWay.__init__" (defArgs s_NoWay_init) (defBody s_NoWay_init) (defScope s_NoWay_init) .none kV_NoWay_init dc_NoWay_init pm_NoWay_init an_NoWay_init cd_NoWay_init ct_NoWay_init), sl_NoWay_init⟩)
    (c_NoWay_init : PySem.W.codeIn K cd_NoWay_init "NoWay.__init__" = true)
    (k_NoWay_init : PySem.W.keepIn K (.ref f_NoWay_init) = true)
    (oc9 : OexCls K C9)
    (os9 : PySem.W.findIn K (.ref C9) "__setattr__" = some (some (.builtin "object.__setattr__")))
    (hs9 : PySem.W.subIn K (.ref C9) (.type "BaseException") = some true)
    (xk9 : PySem.W.keepIn K (.ref C9) = true)
    (oi9 : PySem.W.findIn K (.ref C9) "__init__" = some (some (.ref f_NoText_init)))
    (ot9 : PySem.W.typeIn K (.ref f_NoText_init) = some (.type "function"))
    (l_NoText_init : K.lookup f_NoText_init = some ⟨oc_NoText_init, od_NoText_init, .func (PySem.W.fnOf "__init__" "NoText.__init__" (defArgs s_NoText_init) (defBody s_NoText_init) (defScope s_NoText_init) .none kV_NoText_init dc_NoText_init pm_NoText_init an_NoText_init cd_NoText_init ct_NoText_init), sl_NoText_init⟩)
    (c_NoText_init : PySem.W.codeIn K cd_NoText_init "NoText.__init__" = true)
    (k_NoText_init : PySem.W.keepIn K (.ref f_NoText_init) = true)
    (no_part : PySem.W.findIn K (.ref C9) "part" = some none) :
    ∃ fd : FuncData, (∀ (s : Shared) (v : Value), BindsTo s fd ⟨[v], []⟩ [("_law_script", v)]) ∧ ∀ base : Heap, K.In base → base.Ns mainGlobals mg → FnOk l.prog w K mg base (L2.CX l.prog w) 7 fa fd ["_law_script"] (spD K 1 r_law) := by
  have e := hfa.symm.trans (PySem.W.mg_of X G a_law)
  cases e
  let A : Nat → Addr := fun n => match n with | 1 => C1 | 2 => C2 | 3 => C3 | 4 => C4 | 5 => C5 | 6 => C6 | 7 => C7 | 8 => C8 | 9 => C9 | 10 => C10 | _ => C1
  have T : Txt K mg A := { b_ValueError := PySem.W.mg_none_of X G z_ValueError, b_abs := PySem.W.mg_none_of X G z_abs, b_bool := PySem.W.mg_none_of X G z_bool, b_enumerate := PySem.W.mg_none_of X G z_enumerate, b_int := PySem.W.mg_none_of X G z_int, b_isinstance := PySem.W.mg_none_of X G z_isinstance, b_len := PySem.W.mg_none_of X G z_len, b_list := PySem.W.mg_none_of X G z_list, b_max := PySem.W.mg_none_of X G z_max, b_range := PySem.W.mg_none_of X G z_range, b_sorted := PySem.W.mg_none_of X G z_sorted, b_sum := PySem.W.mg_none_of X G z_sum, b_tuple := PySem.W.mg_none_of X G z_tuple, x_NoWish := ⟨x3, PySem.W.mg_of X G g3, xk3, xb3, xt3⟩, x_TooMany := ⟨x5, PySem.W.mg_of X G g5, xk5, xb5, xt5⟩, c_MOST_WAYS := ⟨.int 10, .int 10 tk_MOST_WAYS, PySem.W.mg_of X G k_MOST_WAYS, ⟨tk_MOST_WAYS, rfl⟩, fun _ => .int 10⟩, c_MOST_WISHES := ⟨.int 3, .int 3 tk_MOST_WISHES, PySem.W.mg_of X G k_MOST_WISHES, ⟨tk_MOST_WISHES, rfl⟩, fun _ => .int 3⟩, xm := (fun c h => (by rcases h with rfl | rfl | rfl; exact exm_ref be10 ci10 ct10 sb3_10; exact exm_ref be10 ci10 ct10 sb4_10; exact exm_ref be10 ci10 ct10 sb5_10)), ek := (fun c h => (by rcases h with rfl | rfl | rfl; exact cd_of ⟨hg3, hk3, hs3, hd3, ha3, hn3, ht3, hm3⟩ ia3 ib3 ic3 id3 ie3; exact cd_of ⟨hg4, hk4, hs4, hd4, ha4, hn4, ht4, hm4⟩ ia4 ib4 ic4 id4 ie4; exact cd_of ⟨hg5, hk5, hs5, hd5, ha5, hn5, ht5, hm5⟩ ia5 ib5 ic5 id5 ie5)), kv := (fun c h => (by rcases h with rfl | rfl | rfl; exact kit_tyT (by rfl) sv3; exact kit_tyT (by rfl) sv4; exact kit_tyT (by rfl) sv5)), kx_2 := (fun c h => (by rcases h with rfl | rfl | rfl; exact kit_refF ci2 ct2 sb3_2 ne3_2; exact kit_refF ci2 ct2 sb4_2 ne4_2; exact kit_refF ci2 ct2 sb5_2 ne5_2)), kx_1 := (fun c h => (by rcases h with rfl | rfl | rfl; exact kit_refF ci1 ct1 sb3_1 ne3_1; exact kit_refF ci1 ct1 sb4_1 ne4_1; exact kit_refF ci1 ct1 sb5_1 ne5_1)), kx_6 := (fun c h => (by rcases h with rfl | rfl | rfl; exact kit_refF ci6 ct6 sb3_6 ne3_6; exact kit_refF ci6 ct6 sb4_6 ne4_6; exact kit_refF ci6 ct6 sb5_6 ne5_6)), kx_7 := (fun c h => (by rcases h with rfl | rfl | rfl; exact kit_refF ci7 ct7 sb3_7 ne3_7; exact kit_refF ci7 ct7 sb4_7 ne4_7; exact kit_refF ci7 ct7 sb5_7 ne5_7)), kx_8 := (fun c h => (by rcases h with rfl | rfl | rfl; exact kit_refF ci8 ct8 sb3_8 ne3_8; exact kit_refF ci8 ct8 sb4_8 ne4_8; exact kit_refF ci8 ct8 sb5_8 ne5_8)), kx_9 := (fun c h => (by rcases h with rfl | rfl | rfl; exact kit_refF ci9 ct9 sb3_9 ne3_9; exact kit_refF ci9 ct9 sb4_9 ne4_9; exact kit_refF ci9 ct9 sb5_9 ne5_9)), kx_4 := (fun c h => (by rcases h with rfl | rfl | rfl; exact kit_refF ci4 ct4 sb3_4 ne3_4; exact kit_refT ci4 ct4 sb4_4; exact kit_refF ci4 ct4 sb5_4 ne5_4)), kx_3 := (fun c h => (by rcases h with rfl | rfl | rfl; exact kit_refT ci3 ct3 sb3_3; exact kit_refF ci3 ct3 sb4_3 ne4_3; exact kit_refF ci3 ct3 sb5_3 ne5_3)), kx_5 := (fun c h => (by rcases h with rfl | rfl | rfl; exact kit_refF ci5 ct5 sb3_5 ne3_5; exact kit_refF ci5 ct5 sb4_5 ne4_5; exact kit_refT ci5 ct5 sb5_5)), g_NoNet := PySem.W.mg_of X G g2, g_NoNumber := PySem.W.mg_of X G g1, g_NoShare := PySem.W.mg_of X G g6, g_NoStep := PySem.W.mg_of X G g7, g_NoSuch := PySem.W.mg_of X G g8, g_NoText := PySem.W.mg_of X G g9, g_NoWay := PySem.W.mg_of X G g4, g_NoWish := PySem.W.mg_of X G g3, g_RoadError := PySem.W.mg_of X G g10, g_TooMany := PySem.W.mg_of X G g5, no_wish := no_wish, no_reached := no_reached }
  have F_is_whole := fun_mk (st := s_is_whole) l_is_whole c_is_whole k_is_whole
  have D_is_whole := def_mk X G a_is_whole F_is_whole (F_is_whole.binds (ps := ["thing"]) fun _ _ _ _ _ _ us hl => match us, hl with | [_], _ => rfl)
  have F_common_part := fun_mk (st := s_common_part) l_common_part c_common_part k_common_part
  have D_common_part := def_mk X G a_common_part F_common_part (F_common_part.binds (ps := ["one", "other"]) fun _ _ _ _ _ _ us hl => match us, hl with | [_, _], _ => rfl)
  have F_is_fraction := fun_mk (st := s_is_fraction) l_is_fraction c_is_fraction k_is_fraction
  have D_is_fraction := def_mk X G a_is_fraction F_is_fraction (F_is_fraction.binds (ps := ["thing"]) fun _ _ _ _ _ _ us hl => match us, hl with | [_], _ => rfl)
  have F_is_place := fun_mk (st := s_is_place) l_is_place c_is_place k_is_place
  have D_is_place := def_mk X G a_is_place F_is_place (F_is_place.binds (ps := ["thing", "many"]) fun _ _ _ _ _ _ us hl => match us, hl with | [_, _], _ => rfl)
  have F_two_places := fun_mk (st := s_two_places) l_two_places c_two_places k_two_places
  have D_two_places := def_mk X G a_two_places F_two_places (F_two_places.binds (ps := ["start", "end", "many"]) fun _ _ _ _ _ _ us hl => match us, hl with | [_, _, _], _ => rfl)
  have F_usable_roads := fun_mk (st := s_usable_roads) l_usable_roads c_usable_roads k_usable_roads
  have D_usable_roads := def_mk X G a_usable_roads F_usable_roads (F_usable_roads.binds (ps := ["net", "lane"]) fun _ _ _ _ _ _ us hl => match us, hl with | [_, _], _ => rfl)
  have F_reached_from := fun_mk (st := s_reached_from) l_reached_from c_reached_from k_reached_from
  have D_reached_from := def_mk X G a_reached_from F_reached_from (F_reached_from.binds (ps := ["net", "start", "lane"]) fun _ _ _ _ _ _ us hl => match us, hl with | [_, _, _], _ => rfl)
  have F_ways_between := fun_mk (st := s_ways_between) l_ways_between c_ways_between k_ways_between
  have D_ways_between := def_mk X G a_ways_between F_ways_between (F_ways_between.binds (ps := ["net", "start", "end", "lane"]) fun _ _ _ _ _ _ us hl => match us, hl with | [_, _, _, _], _ => rfl)
  have F_ask_way := fun_mk (st := s_ask_way) l_ask_way c_ask_way k_ask_way
  have D_ask_way := def_mk X G a_ask_way F_ask_way (F_ask_way.binds (ps := ["net", "start", "end", "lane", "number"]) fun _ _ _ _ _ _ us hl => match us, hl with | [_, _, _, _, _], _ => rfl)
  have F_wish_fits := fun_mk (st := s_wish_fits) l_wish_fits c_wish_fits k_wish_fits
  have D_wish_fits := def_mk X G a_wish_fits F_wish_fits (F_wish_fits.binds (ps := ["wish", "many"]) fun _ _ _ _ _ _ us hl => match us, hl with | [_, _], _ => rfl)
  have F_ways_of := fun_mk (st := s_ways_of) l_ways_of c_ways_of k_ways_of
  have D_ways_of := def_mk X G a_ways_of F_ways_of (F_ways_of.binds (ps := ["net", "wish"]) fun _ _ _ _ _ _ us hl => match us, hl with | [_, _], _ => rfl)
  have F_made_wishes := fun_mk (st := s_made_wishes) l_made_wishes c_made_wishes k_made_wishes
  have D_made_wishes := def_mk X G a_made_wishes F_made_wishes (F_made_wishes.binds (ps := ["net", "wishes"]) fun _ _ _ _ _ _ us hl => match us, hl with | [_, _], _ => rfl)
  have F_l_whole := fun_mk (st := s_l_whole) l_l_whole c_l_whole k_l_whole
  have D_l_whole := def_mk X G a_l_whole F_l_whole (F_l_whole.binds (ps := ["_law_found"]) fun _ _ _ _ _ _ us hl => match us, hl with | [_], _ => rfl)
  have F_l_draws := fun_mk (st := s_l_draws) l_l_draws c_l_draws k_l_draws
  have D_l_draws := def_mk X G a_l_draws F_l_draws (F_l_draws.binds (ps := ["_law_script"]) fun _ _ _ _ _ _ us hl => match us, hl with | [_], _ => rfl)
  have F_l_mixed := fun_mk (st := s_l_mixed) l_l_mixed c_l_mixed k_l_mixed
  have D_l_mixed := def_mk X G a_l_mixed F_l_mixed (F_l_mixed.binds (ps := ["_law_draws_here", "_law_k"]) fun _ _ _ _ _ _ us hl => match us, hl with | [_, _], _ => rfl)
  have F_l_base := fun_mk (st := s_l_base) l_l_base c_l_base k_l_base
  have D_l_base := def_mk X G a_l_base F_l_base (F_l_base.binds (ps := ["_law_draws_here", "_law_k"]) fun _ _ _ _ _ _ us hl => match us, hl with | [_, _], _ => rfl)
  have F_l_net := fun_mk (st := s_l_net) l_l_net c_l_net k_l_net
  have D_l_net := def_mk X G a_l_net F_l_net (F_l_net.binds (ps := ["_law_draws_here"]) fun _ _ _ _ _ _ us hl => match us, hl with | [_], _ => rfl)
  have F_l_wishes := fun_mk (st := s_l_wishes) l_l_wishes c_l_wishes k_l_wishes
  have D_l_wishes := def_mk X G a_l_wishes F_l_wishes (F_l_wishes.binds (ps := ["_law_draws_here", "_law_many"]) fun _ _ _ _ _ _ us hl => match us, hl with | [_, _], _ => rfl)
  have F_l_listed := fun_mk (st := s_l_listed) l_l_listed c_l_listed k_l_listed
  have D_l_listed := def_mk X G a_l_listed F_l_listed (F_l_listed.binds (ps := ["_law_roads", "_law_wish"]) fun _ _ _ _ _ _ us hl => match us, hl with | [_, _], _ => rfl)
  have F_l_reached := fun_mk (st := s_l_reached) l_l_reached c_l_reached k_l_reached
  have D_l_reached := def_mk X G a_l_reached F_l_reached (F_l_reached.binds (ps := ["_law_roads", "_law_wish", "_law_reached_here"]) fun _ _ _ _ _ _ us hl => match us, hl with | [_, _, _], _ => rfl)
  have F_l_asked := fun_mk (st := s_l_asked) l_l_asked c_l_asked k_l_asked
  have D_l_asked := def_mk X G a_l_asked F_l_asked (F_l_asked.binds (ps := ["_law_net_here", "_law_wishes_here"]) fun _ _ _ _ _ _ us hl => match us, hl with | [_, _], _ => rfl)
  have F_l_only := fun_mk (st := s_l_only) l_l_only c_l_only k_l_only
  have D_l_only := def_mk X G a_l_only F_l_only (F_l_only.binds (ps := ["_law_came", "_law_kind"]) fun _ _ _ _ _ _ us hl => match us, hl with | [_, _], _ => rfl)
  have F_l_good := fun_mk (st := s_l_good) l_l_good c_l_good k_l_good
  have D_l_good := def_mk X G a_l_good F_l_good (F_l_good.binds (ps := ["_law_told", "_law_roads", "_law_wishes_here"]) fun _ _ _ _ _ _ us hl => match us, hl with | [_, _, _], _ => rfl)
  have F_l_laid := fun_mk (st := s_l_laid) l_l_laid c_l_laid k_l_laid
  have D_l_laid := def_mk X G a_l_laid F_l_laid (F_l_laid.binds (ps := ["_law_roads", "_law_wish"]) fun _ _ _ _ _ _ us hl => match us, hl with | [_, _], _ => rfl)
  have F_NoWay_init := fun_mk (st := s_NoWay_init) l_NoWay_init c_NoWay_init k_NoWay_init
  have F_NoText_init := fun_mk (st := s_NoText_init) l_NoText_init c_NoText_init k_NoText_init
  refine ⟨PySem.W.fnOf "law" "law" (defArgs s_law) (defBody s_law) (defScope s_law) .none kV_law dc_law pm_law an_law cd_law ct_law, fun s v => .of_eq rfl, fun base _ _ => ?_⟩
  have O_NoWay__init_ : IniC l.prog w K mg base "NoWay" C4 (spNW K C4) := ini_w oc4 os4 hs4 ct4 xk4 (PySem.W.mg_of X G g4) oi4 ot4 (ok_NoWay_init F_NoWay_init (PySem.W.mg_of X G g10) ⟨r1, r2, r3⟩ no_wish no_reached) (F_NoWay_init.binds (ps := ["self", "wish", "reached"]) fun _ _ _ _ _ _ us hl => match us, hl with | [_, _, _], _ => rfl)
  have O_NoText__init_ : IniC l.prog w K mg base "NoText" C9 (spNT K C9) := ini_w oc9 os9 hs9 ct9 xk9 (PySem.W.mg_of X G g9) oi9 ot9 (ok_NoText_init F_NoText_init (PySem.W.mg_of X G g10) ⟨r1, r2, r3⟩ no_part) (F_NoText_init.binds (ps := ["self", "part"]) fun _ _ _ _ _ _ us hl => match us, hl with | [_, _], _ => rfl)
  have O_is_whole := ok_is_whole (P := l.prog) (w := w) (base := base) D_is_whole T 
  have O_common_part := ok_common_part (P := l.prog) (w := w) (base := base) D_common_part T 
  have O_is_fraction := ok_is_fraction (P := l.prog) (w := w) (base := base) D_is_fraction T O_is_whole O_common_part
  have O_is_place := ok_is_place (P := l.prog) (w := w) (base := base) D_is_place T O_is_whole
  have O_two_places := ok_two_places (P := l.prog) (w := w) (base := base) D_two_places T O_is_place
  have O_usable_roads := ok_usable_roads (P := l.prog) (w := w) (base := base) D_usable_roads T 
  have O_reached_from := ok_reached_from (P := l.prog) (w := w) (base := base) D_reached_from T O_usable_roads
  have O_ways_between := ok_ways_between (P := l.prog) (w := w) (base := base) D_ways_between T O_usable_roads
  have O_ask_way := ok_ask_way (P := l.prog) (w := w) (base := base) D_ask_way T O_NoWay__init_ O_reached_from
  have O_wish_fits := ok_wish_fits (P := l.prog) (w := w) (base := base) D_wish_fits T O_is_fraction O_two_places
  have O_ways_of := ok_ways_of (P := l.prog) (w := w) (base := base) D_ways_of T O_ways_between
  have O_made_wishes := ok_made_wishes (P := l.prog) (w := w) (base := base) D_made_wishes T O_ask_way O_wish_fits O_ways_of
  have O_l_whole := ok_l_whole (P := l.prog) (w := w) (base := base) D_l_whole T 
  have O_l_draws := ok_l_draws (P := l.prog) (w := w) (base := base) D_l_draws T 
  have O_l_mixed := ok_l_mixed (P := l.prog) (w := w) (base := base) D_l_mixed T 
  have O_l_base := ok_l_base (P := l.prog) (w := w) (base := base) D_l_base T 
  have O_l_net := ok_l_net (P := l.prog) (w := w) (base := base) D_l_net T O_l_mixed O_l_base
  have O_l_wishes := ok_l_wishes (P := l.prog) (w := w) (base := base) D_l_wishes T O_l_mixed
  have O_l_listed := ok_l_listed (P := l.prog) (w := w) (base := base) D_l_listed T 
  have O_l_reached := ok_l_reached (P := l.prog) (w := w) (base := base) D_l_reached T O_l_whole
  have O_l_asked := ok_l_asked (P := l.prog) (w := w) (base := base) D_l_asked T O_made_wishes
  have O_l_only := ok_l_only (P := l.prog) (w := w) (base := base) D_l_only T 
  have O_l_good := ok_l_good (P := l.prog) (w := w) (base := base) D_l_good T O_l_whole O_l_listed O_l_reached O_l_only
  have O_l_laid := ok_l_laid (P := l.prog) (w := w) (base := base) D_l_laid T 
  exact ok_law (fun_mk (st := s_law) l_law c_law k_law) T O_l_draws O_l_net O_l_wishes O_l_listed O_l_asked O_l_good O_l_laid
end K08

end

section
theorem D.oex_of {K : PySem.W.Frag} {C : PySem.Addr} {nm q N bs bm sn sub ab col dd k0 k1 k2 k3 k5} (h1 : K.lookup C = some (PySem.excClassObj nm q C N bs bm true sn sub ab col dd k0 k1 k2 k3 k5 "ValueError.__new__")) (h2 : PySem.HandSPX.refsVE bm = true) : D.OexCls K C := ⟨_, _, _, _, _, _, _, _, _, _, _, _, _, _, _, h1, h2⟩
open PySem PySem.W PyProof.Rows in
set_option maxRecDepth 100000 in
set_option maxHeartbeats 0 in
theorem PySem.Challenge.cw_crowdroads_k08_whole_no_way_holds : PySem.Challenge.rw_crowdroads_k08_whole_no_way.Holds := by
  w_on; o_law; k_head; (case hw => w_witness2)
  k_fill
  refine D.walk (l := PySem.Challenge.rw_crowdroads_k08_whole_no_way) (x := "_law_script") (k := 7) (Rf := K08.r_law) rfl rfl ⟨rfl, by decide, by decide⟩ (fun w h Y => PySem.W.kIn_of Y) ?F ?S
  case F =>
    intro w mg fa h KX G hmg
    refine' K08.all_mk KX G hmg ?g1 ?g2 ?g3 ?g4 ?g5 ?g6 ?g7 ?g8 ?g9 ?g10 ?z_ValueError ?z_abs ?z_bool ?z_enumerate ?z_int ?z_isinstance ?z_len ?z_list ?z_max ?z_range ?z_sorted ?z_sum ?z_tuple ?x3 ?xk3 ?xb3 ?xt3 ?x5 ?xk5 ?xb5 ?xt5 ?k_MOST_WAYS ?k_MOST_WISHES ?a_is_whole ?l_is_whole ?c_is_whole ?k_is_whole ?a_common_part ?l_common_part ?c_common_part ?k_common_part ?a_is_fraction ?l_is_fraction ?c_is_fraction ?k_is_fraction ?a_is_place ?l_is_place ?c_is_place ?k_is_place ?a_two_places ?l_two_places ?c_two_places ?k_two_places ?a_usable_roads ?l_usable_roads ?c_usable_roads ?k_usable_roads ?a_reached_from ?l_reached_from ?c_reached_from ?k_reached_from ?a_ways_between ?l_ways_between ?c_ways_between ?k_ways_between ?a_ask_way ?l_ask_way ?c_ask_way ?k_ask_way ?a_wish_fits ?l_wish_fits ?c_wish_fits ?k_wish_fits ?a_ways_of ?l_ways_of ?c_ways_of ?k_ways_of ?a_made_wishes ?l_made_wishes ?c_made_wishes ?k_made_wishes ?a_l_whole ?l_l_whole ?c_l_whole ?k_l_whole ?a_l_draws ?l_l_draws ?c_l_draws ?k_l_draws ?a_l_mixed ?l_l_mixed ?c_l_mixed ?k_l_mixed ?a_l_base ?l_l_base ?c_l_base ?k_l_base ?a_l_net ?l_l_net ?c_l_net ?k_l_net ?a_l_wishes ?l_l_wishes ?c_l_wishes ?k_l_wishes ?a_l_listed ?l_l_listed ?c_l_listed ?k_l_listed ?a_l_reached ?l_l_reached ?c_l_reached ?k_l_reached ?a_l_asked ?l_l_asked ?c_l_asked ?k_l_asked ?a_l_only ?l_l_only ?c_l_only ?k_l_only ?a_l_good ?l_l_good ?c_l_good ?k_l_good ?a_l_laid ?l_l_laid ?c_l_laid ?k_l_laid ?a_law ?l_law ?c_law ?k_law ?hg3 ?hk3 ?hs3 ?hd3 ?ha3 ?hn3 ?ht3 ?hm3 ?ia3 ?ib3 ?ic3 ?id3 ?ie3 ?sv3 ?sb3_10 ?ci2 ?ct2 ?sb3_2 ?ne3_2 ?ci1 ?ct1 ?sb3_1 ?ne3_1 ?ci6 ?ct6 ?sb3_6 ?ne3_6 ?ci7 ?ct7 ?sb3_7 ?ne3_7 ?ci8 ?ct8 ?sb3_8 ?ne3_8 ?ci9 ?ct9 ?sb3_9 ?ne3_9 ?ci4 ?ct4 ?sb3_4 ?ne3_4 ?ci3 ?ct3 ?sb3_3 ?ci5 ?ct5 ?sb3_5 ?ne3_5 ?hg4 ?hk4 ?hs4 ?hd4 ?ha4 ?hn4 ?ht4 ?hm4 ?ia4 ?ib4 ?ic4 ?id4 ?ie4 ?sv4 ?sb4_10 ?sb4_2 ?ne4_2 ?sb4_1 ?ne4_1 ?sb4_6 ?ne4_6 ?sb4_7 ?ne4_7 ?sb4_8 ?ne4_8 ?sb4_9 ?ne4_9 ?sb4_4 ?sb4_3 ?ne4_3 ?sb4_5 ?ne4_5 ?hg5 ?hk5 ?hs5 ?hd5 ?ha5 ?hn5 ?ht5 ?hm5 ?ia5 ?ib5 ?ic5 ?id5 ?ie5 ?sv5 ?sb5_10 ?sb5_2 ?ne5_2 ?sb5_1 ?ne5_1 ?sb5_6 ?ne5_6 ?sb5_7 ?ne5_7 ?sb5_8 ?ne5_8 ?sb5_9 ?ne5_9 ?sb5_4 ?ne5_4 ?sb5_3 ?ne5_3 ?sb5_5 ?ci10 ?ct10 ?be10 ?no_wish ?no_reached ?r1 ?r2 ?r3 ?oc4 ?os4 ?xk4 ?oi4 ?ot4 ?l_NoWay_init ?c_NoWay_init ?k_NoWay_init ?oc9 ?os9 ?hs9 ?xk9 ?oi9 ?ot9 ?l_NoText_init ?c_NoText_init ?k_NoText_init ?no_part
    (case g1 => k_is)
    (case g2 => k_is)
    (case g3 => k_is)
    (case g4 => k_is)
    (case g5 => k_is)
    (case g6 => k_is)
    (case g7 => k_is)
    (case g8 => k_is)
    (case g9 => k_is)
    (case g10 => k_is)
    (case z_ValueError => k_is)
    (case z_abs => k_is)
    (case z_bool => k_is)
    (case z_enumerate => k_is)
    (case z_int => k_is)
    (case z_isinstance => k_is)
    (case z_len => k_is)
    (case z_list => k_is)
    (case z_max => k_is)
    (case z_range => k_is)
    (case z_sorted => k_is)
    (case z_sum => k_is)
    (case z_tuple => k_is)
    (case x3 => k_exc)
    (case xk3 => k_is)
    (case xb3 => k_is)
    (case xt3 => k_is)
    (case x5 => k_exc)
    (case xk5 => k_is)
    (case xb5 => k_is)
    (case xt5 => k_is)
    (case k_MOST_WAYS => k_is)
    (case k_MOST_WISHES => k_is)
    (case a_is_whole => k_is)
    (case l_is_whole => k_is)
    (case c_is_whole => k_is)
    (case k_is_whole => k_is)
    (case a_common_part => k_is)
    (case l_common_part => k_is)
    (case c_common_part => k_is)
    (case k_common_part => k_is)
    (case a_is_fraction => k_is)
    (case l_is_fraction => k_is)
    (case c_is_fraction => k_is)
    (case k_is_fraction => k_is)
    (case a_is_place => k_is)
    (case l_is_place => k_is)
    (case c_is_place => k_is)
    (case k_is_place => k_is)
    (case a_two_places => k_is)
    (case l_two_places => k_is)
    (case c_two_places => k_is)
    (case k_two_places => k_is)
    (case a_usable_roads => k_is)
    (case l_usable_roads => k_is)
    (case c_usable_roads => k_is)
    (case k_usable_roads => k_is)
    (case a_reached_from => k_is)
    (case l_reached_from => k_is)
    (case c_reached_from => k_is)
    (case k_reached_from => k_is)
    (case a_ways_between => k_is)
    (case l_ways_between => k_is)
    (case c_ways_between => k_is)
    (case k_ways_between => k_is)
    (case a_ask_way => k_is)
    (case l_ask_way => k_is)
    (case c_ask_way => k_is)
    (case k_ask_way => k_is)
    (case a_wish_fits => k_is)
    (case l_wish_fits => k_is)
    (case c_wish_fits => k_is)
    (case k_wish_fits => k_is)
    (case a_ways_of => k_is)
    (case l_ways_of => k_is)
    (case c_ways_of => k_is)
    (case k_ways_of => k_is)
    (case a_made_wishes => k_is)
    (case l_made_wishes => k_is)
    (case c_made_wishes => k_is)
    (case k_made_wishes => k_is)
    (case a_l_whole => k_is)
    (case l_l_whole => k_is)
    (case c_l_whole => k_is)
    (case k_l_whole => k_is)
    (case a_l_draws => k_is)
    (case l_l_draws => k_is)
    (case c_l_draws => k_is)
    (case k_l_draws => k_is)
    (case a_l_mixed => k_is)
    (case l_l_mixed => k_is)
    (case c_l_mixed => k_is)
    (case k_l_mixed => k_is)
    (case a_l_base => k_is)
    (case l_l_base => k_is)
    (case c_l_base => k_is)
    (case k_l_base => k_is)
    (case a_l_net => k_is)
    (case l_l_net => k_is)
    (case c_l_net => k_is)
    (case k_l_net => k_is)
    (case a_l_wishes => k_is)
    (case l_l_wishes => k_is)
    (case c_l_wishes => k_is)
    (case k_l_wishes => k_is)
    (case a_l_listed => k_is)
    (case l_l_listed => k_is)
    (case c_l_listed => k_is)
    (case k_l_listed => k_is)
    (case a_l_reached => k_is)
    (case l_l_reached => k_is)
    (case c_l_reached => k_is)
    (case k_l_reached => k_is)
    (case a_l_asked => k_is)
    (case l_l_asked => k_is)
    (case c_l_asked => k_is)
    (case k_l_asked => k_is)
    (case a_l_only => k_is)
    (case l_l_only => k_is)
    (case c_l_only => k_is)
    (case k_l_only => k_is)
    (case a_l_good => k_is)
    (case l_l_good => k_is)
    (case c_l_good => k_is)
    (case k_l_good => k_is)
    (case a_l_laid => k_is)
    (case l_l_laid => k_is)
    (case c_l_laid => k_is)
    (case k_l_laid => k_is)
    (case a_law => k_is)
    (case l_law => k_is)
    (case c_law => k_is)
    (case k_law => k_is)
    (case hg3 => k_is)
    (case hk3 => k_is)
    (case hs3 => k_is)
    (case hd3 => k_is)
    (case ha3 => k_is)
    (case hn3 => k_is)
    (case ht3 => k_is)
    (case hm3 => k_is)
    (case ia3 => k_is)
    (case ib3 => k_is)
    (case ic3 => k_is)
    (case id3 => k_is)
    (case ie3 => k_is)
    (case sv3 => k_is)
    (case sb3_10 => k_is)
    (case ci2 => k_is)
    (case ct2 => k_is)
    (case sb3_2 => k_is)
    (case ne3_2 => rfl)
    (case ci1 => k_is)
    (case ct1 => k_is)
    (case sb3_1 => k_is)
    (case ne3_1 => rfl)
    (case ci6 => k_is)
    (case ct6 => k_is)
    (case sb3_6 => k_is)
    (case ne3_6 => rfl)
    (case ci7 => k_is)
    (case ct7 => k_is)
    (case sb3_7 => k_is)
    (case ne3_7 => rfl)
    (case ci8 => k_is)
    (case ct8 => k_is)
    (case sb3_8 => k_is)
    (case ne3_8 => rfl)
    (case ci9 => k_is)
    (case ct9 => k_is)
    (case sb3_9 => k_is)
    (case ne3_9 => rfl)
    (case ci4 => k_is)
    (case ct4 => k_is)
    (case sb3_4 => k_is)
    (case ne3_4 => rfl)
    (case ci3 => k_is)
    (case ct3 => k_is)
    (case sb3_3 => k_is)
    (case ci5 => k_is)
    (case ct5 => k_is)
    (case sb3_5 => k_is)
    (case ne3_5 => rfl)
    (case hg4 => k_is)
    (case hk4 => k_is)
    (case hs4 => k_is)
    (case hd4 => k_is)
    (case ha4 => k_is)
    (case hn4 => k_is)
    (case ht4 => k_is)
    (case hm4 => k_is)
    (case ia4 => k_is)
    (case ib4 => k_is)
    (case ic4 => k_is)
    (case id4 => k_is)
    (case ie4 => k_is)
    (case sv4 => k_is)
    (case sb4_10 => k_is)
    (case sb4_2 => k_is)
    (case ne4_2 => rfl)
    (case sb4_1 => k_is)
    (case ne4_1 => rfl)
    (case sb4_6 => k_is)
    (case ne4_6 => rfl)
    (case sb4_7 => k_is)
    (case ne4_7 => rfl)
    (case sb4_8 => k_is)
    (case ne4_8 => rfl)
    (case sb4_9 => k_is)
    (case ne4_9 => rfl)
    (case sb4_4 => k_is)
    (case sb4_3 => k_is)
    (case ne4_3 => rfl)
    (case sb4_5 => k_is)
    (case ne4_5 => rfl)
    (case hg5 => k_is)
    (case hk5 => k_is)
    (case hs5 => k_is)
    (case hd5 => k_is)
    (case ha5 => k_is)
    (case hn5 => k_is)
    (case ht5 => k_is)
    (case hm5 => k_is)
    (case ia5 => k_is)
    (case ib5 => k_is)
    (case ic5 => k_is)
    (case id5 => k_is)
    (case ie5 => k_is)
    (case sv5 => k_is)
    (case sb5_10 => k_is)
    (case sb5_2 => k_is)
    (case ne5_2 => rfl)
    (case sb5_1 => k_is)
    (case ne5_1 => rfl)
    (case sb5_6 => k_is)
    (case ne5_6 => rfl)
    (case sb5_7 => k_is)
    (case ne5_7 => rfl)
    (case sb5_8 => k_is)
    (case ne5_8 => rfl)
    (case sb5_9 => k_is)
    (case ne5_9 => rfl)
    (case sb5_4 => k_is)
    (case ne5_4 => rfl)
    (case sb5_3 => k_is)
    (case ne5_3 => rfl)
    (case sb5_5 => k_is)
    (case ci10 => k_is)
    (case ct10 => k_is)
    (case be10 => k_is)
    (case no_wish => k_is)
    (case no_reached => k_is)
    (case r1 => k_is)
    (case r2 => k_is)
    (case r3 => k_is)
    (case oc4 => (apply D.oex_of; (case h1 => first | k_is | rfl | decide +kernel); (case h2 => first | decide +kernel | rfl)))
    (case os4 => k_is)
    (case xk4 => k_is)
    (case oi4 => k_is)
    (case ot4 => k_is)
    (case l_NoWay_init => k_is)
    (case c_NoWay_init => k_is)
    (case k_NoWay_init => k_is)
    (case oc9 => (apply D.oex_of; (case h1 => first | k_is | rfl | decide +kernel); (case h2 => first | decide +kernel | rfl)))
    (case os9 => k_is)
    (case hs9 => k_is)
    (case xk9 => k_is)
    (case oi9 => k_is)
    (case ot9 => k_is)
    (case l_NoText_init => k_is)
    (case c_NoText_init => k_is)
    (case k_NoText_init => k_is)
    (case no_part => k_is)
  case S =>
    intro ns hl
    exact ⟨ns, hl, rfl, by rw [K08.law_ok hl]⟩

end
