import PyProof.Rows.All
import Wide.All
import OpenK.AllK
import Wide.FinOn
import HandS.ForMost
import HandS.Exc
import HandS.TryOnly
import HandS.ExcOwn
import HandS.WordsExc
import HandS.IsInst
import HandS.ExcIs
import HandS.CallSlots
import HandS.Wide
import HandS.Walk
import HandS.SortInts
import HandS.SortOrd
import HandS.ExcInit
import HandS.ExcField
import KE.KExcIs
import KE.GoesMore
import KE.GoesEnum
import HandS.DeepEq
import HandS.Style
import HandS.New0
import KE.SortData
import KE.DataCmp
import HandS.TupMul
import HandS.Text
import HandS.FStr
import HandS.Iter
import HandS.Dict
import HandS.Deep
import PySem.Challenge.RW_crowdroads_k61_text_read
section
set_option Elab.async false
set_option linter.all false
set_option maxRecDepth 100000
set_option maxHeartbeats 2000000
/-! A layer of pure data over the hand layer: what a piece of the program makes of plain data, no heap in sight. -/
namespace D
open PySem L2

/-! ### heaps -/
def fz (W : List Addr) (H : Hp) : Hp := fun a => if a ∈ W then none else H a
theorem fz_of {W : List Addr} {H : Hp} {a : Addr} (h : a ∉ W) : fz W H a = H a := if_neg h
theorem fz_in {W : List Addr} {H : Hp} {a : Addr} (h : a ∈ W) : fz W H a = none := if_pos h
theorem fz_some {W : List Addr} {H : Hp} {a : Addr} {o : HO} (e : fz W H a = some o) : a ∉ W ∧ H a = some o := by
  by_cases h : a ∈ W
  · rw [fz_in h] at e; cases e
  · rw [fz_of h] at e; exact ⟨h, e⟩
theorem fz_mono {W W' : List Addr} {H H' : Hp} (h : ∀ a o, a ∉ W → H a = some o → a ∉ W' ∧ H' a = some o) : Same (fz W H) (fz W' H') := fun a o e => by
  obtain ⟨n, e1⟩ := fz_some e
  obtain ⟨n2, e2⟩ := h a o n e1
  rw [fz_of n2]
  exact e2
theorem fz_sub {W : List Addr} {H : Hp} : Same (fz W H) H := fun a o e => (fz_some e).2
theorem fz_same {W : List Addr} {H H' : Hp} (e : Same H H') : Same (fz W H) (fz W H') := fz_mono fun a o n h => ⟨n, e a o h⟩
theorem fz_upd {W : List Addr} {H : Hp} {p : Addr} {o : HO} (h : p ∈ W) : fz W (upd H p o) = fz W H := by
  funext a
  by_cases n : a ∈ W
  · rw [fz_in n, fz_in n]
  · rw [fz_of n, fz_of n, upd_ne (fun e : a = p => n (by rw [e]; exact h))]
theorem same_new {H : Hp} {p : Addr} {o : HO} (h : H p = none) : Same H (upd H p o) := fun a u e => by
  rw [upd_ne (ne_of_none e h)]
  exact e
theorem same_t {K : PySem.W.Frag} {H H' : Hp} {a : Addr} {xs : List V} (e : Same H H') (h : SqT K H a xs) : SqT K H' a xs := by
  rcases h with (h | ⟨o, h⟩) | h
  · exact .inl (.inl (e _ _ h))
  · exact .inl (.inr ⟨o, e _ _ h⟩)
  · exact .inr h

/-- what K must say of a class whose instances have no fields -/
structure InsC (K : PySem.W.Frag) (C : Addr) : Prop where
  cls : Cls K C
  ha : PySem.W.findIn K (.ref C) "__class__" = some (some (.builtin "object.__class__"))
  hn : PySem.W.specialIn K (.builtin "object.__class__") "__get__" = some (some (.builtin "getset_descriptor.__get__"))
  ht : PySem.W.takesIn K (.builtin "object.__class__") = some true
  hm : PySem.W.mroIn K C (.type "object") = some true
  ki : PySem.W.kitOne K (.ref C) (.type "int") = some false
  kb : PySem.W.kitOne K (.ref C) (.type "bool") = some false
  kt : PySem.W.kitOne K (.ref C) (.type "tuple") = some false
  kl : PySem.W.kitOne K (.ref C) (.type "list") = some false
  ks : PySem.W.kitOne K (.ref C) (.type "str") = some false
/-! ### exceptions as data -/
/-- an exception that is over: its class, its dict -/
def ExZ (C : Addr) (d : Option Addr) (a : Addr) : HO := .ext fun h => ∃ (oe : Obj) (vs : Array Value), h.get? a = some oe ∧ Zc (.ref C) d oe ∧ oe.data = .fields vs
/-- what K must say of an exception's class -/
structure ExcK (K : PySem.W.Frag) (C : Addr) : Prop where
  e : ExcC K C
  ki : PySem.W.kitOne K (.ref C) (.type "int") = some false
  kb : PySem.W.kitOne K (.ref C) (.type "bool") = some false
  kt : PySem.W.kitOne K (.ref C) (.type "tuple") = some false
  kl : PySem.W.kitOne K (.ref C) (.type "list") = some false
  ks : PySem.W.kitOne K (.ref C) (.type "str") = some false
/-- an exception's fields -/
inductive FdR (K : PySem.W.Frag) (H : Hp) : Option Addr → PyData → Prop
  | n : FdR K H none (.bool true)
  | w {dx l : Addr} {n : Int} {ns : List Int} : H dx = some (.xd [("reached", .ref l), ("wish", .int n)]) → SqL K H l (ns.map V.int) → FdR K H (some dx) (.tuple [.int n, .list (ns.map .int)])
  | p {dx : Addr} {n : Int} : H dx = some (.xd [("part", .int n)]) → FdR K H (some dx) (.int n)
theorem FdR.same {K : PySem.W.Frag} {H H' : Hp} (e : Same H H') {d : Option Addr} {y : PyData} (h : FdR K H d y) : FdR K H' d y := by
  cases h with
  | n => exact .n
  | w h1 h2 => exact .w (e _ _ h1) (e.seq h2)
  | p h1 => exact .p (e _ _ h1)
/-! ### data in a heap -/
mutual
inductive R (K : PySem.W.Frag) (H : Hp) : V → PyData → Prop
  | non : R K H .non .none
  | bl (b : Bool) : R K H (.bl b) (.bool b)
  | int (i : Int) : R K H (.int i) (.int i)
  | str (x : Str) : R K H (.str x) (.str x)
  | lst {a : Addr} {xs : List V} {ds : List PyData} : SqL K H a xs → RA K H xs ds → R K H (.ref a) (.list ds)
  | tup {a : Addr} {xs : List V} {ds : List PyData} : SqT K H a xs → RA K H xs ds → R K H (.ref a) (.tuple ds)
  | dict0 {a : Addr} : H a = some (.dK []) → R K H (.ref a) (.dict [])
  | ins {a dx C : Addr} : H a = some (.ins C dx []) → InsC K C → R K H (.ref a) (.dict [(.int (C : Int), .none)])
  | exc {a C : Addr} {d : Option Addr} {y : PyData} : H a = some (ExZ C d a) → ExcK K C → FdR K H d y → R K H (.ref a) (.dict [(.int (C : Int), y)])
  | obj {a C dx : Addr} {fs : List (Str × V)} {ds : List PyData} : H a = some (.ins C dx fs) → InsC K C → RA K H (fs.map (·.2)) ds → R K H (.ref a) (.dict [(.list (.int (C : Int) :: (fs.map (·.1)).map PyData.str), .list ds)])
inductive RA (K : PySem.W.Frag) (H : Hp) : List V → List PyData → Prop
  | nil : RA K H [] []
  | cons {v : V} {vs : List V} {d : PyData} {ds : List PyData} : R K H v d → RA K H vs ds → RA K H (v :: vs) (d :: ds)
end
section
variable {K : PySem.W.Frag} {H H' : Hp}
theorem R.same0 (e : Same H H') {v : V} {d : PyData} (h : R K H v d) : R K H' v d := by
  refine R.rec (motive_1 := fun v d _ => R K H' v d) (motive_2 := fun vs ds _ => RA K H' vs ds) ?_ ?_ ?_ ?_ ?_ ?_ ?_ ?_ ?_ ?_ ?_ ?_ h
  · exact .non
  · exact .bl
  · exact .int
  · exact .str
  · exact fun hs _ ih => .lst (e.seq hs) ih
  · exact fun hs _ ih => .tup (same_t e hs) ih
  · exact fun hs => .dict0 (e _ _ hs)
  · exact fun hs hc => .ins (e _ _ hs) hc
  · exact fun hs hc hf => .exc (e _ _ hs) hc (hf.same e)
  · exact fun hs hc _ ih => .obj (e _ _ hs) hc ih
  · exact .nil
  · exact fun _ _ h1 h2 => .cons h1 h2
theorem R.same (e : Same H H') (d : PyData) (v : V) (h : R K H v d) : R K H' v d := h.same0 e
theorem RA.same (e : Same H H') : ∀ (ds : List PyData) (vs : List V), RA K H vs ds → RA K H' vs ds
  | [], _, h => by cases h; exact .nil
  | d :: ds, _, h => by
    cases h with
    | cons h1 h2 => exact .cons (R.same e d _ h1) (RA.same e ds _ h2)
mutual
/-- no dict within -/
def noDict : PyData → Bool
  | .dict _ => false
  | .list ds => noDicts ds
  | .tuple ds => noDicts ds
  | _ => true
def noDicts : List PyData → Bool
  | [] => true
  | d :: ds => noDict d && noDicts ds
end
mutual
theorem R.dp : ∀ (d : PyData) (v : V), noDict d = true → R K H v d → Dp K H v d
  | .none, _, _, h => by cases h; exact .non
  | .bool b, _, _, h => by cases h; exact .bl b
  | .int i, _, _, h => by cases h; exact .int i
  | .str x, _, _, h => by cases h; exact .str x
  | .list ds, _, n, h => by
    cases h with
    | lst hs ha => exact .lst hs (RA.dp ds _ (by simpa [noDict] using n) ha)
  | .tuple ds, _, n, h => by
    cases h with
    | tup hs ha => exact .tup hs (RA.dp ds _ (by simpa [noDict] using n) ha)
  | .dict kvs, _, n, h => by simp [noDict] at n
theorem RA.dp : ∀ (ds : List PyData) (vs : List V), noDicts ds = true → RA K H vs ds → DpAll K H vs ds
  | [], _, _, h => by cases h; exact .nil
  | d :: ds, _, n, h => by
    have n' : noDict d = true ∧ noDicts ds = true := by simpa [noDicts] using n
    cases h with
    | cons h1 h2 => exact .cons (R.dp d _ n'.1 h1) (RA.dp ds _ n'.2 h2)
end
theorem RA.length : ∀ {ds : List PyData} {vs : List V}, RA K H vs ds → vs.length = ds.length
  | [], _, h => by cases h; rfl
  | d :: ds, _, h => by
    cases h with
    | cons h1 h2 => simp [RA.length h2]
theorem RA.get : ∀ {ds : List PyData} {vs : List V} {i : Nat} {x : PyData}, RA K H vs ds → ds[i]? = some x → ∃ v, vs[i]? = some v ∧ R K H v x
  | [], _, i, x, h, e => by simp at e
  | d :: ds, _, 0, x, h, e => by
    cases h with
    | cons h1 h2 =>
      cases (Option.some.inj e : d = x)
      exact ⟨_, rfl, h1⟩
  | d :: ds, _, i + 1, x, h, e => by
    cases h with
    | cons h1 h2 =>
      obtain ⟨v, h3, h4⟩ := RA.get (i := i) (x := x) h2 (by simpa using e)
      exact ⟨v, by simpa using h3, h4⟩
theorem RA.getV : ∀ {ds : List PyData} {vs : List V} {i : Nat} {v : V}, RA K H vs ds → vs[i]? = some v → ∃ x, ds[i]? = some x ∧ R K H v x
  | [], _, i, x, h, e => by cases h; simp at e
  | d :: ds, _, 0, x, h, e => by
    cases h with
    | cons h1 h2 =>
      cases Option.some.inj e
      exact ⟨_, rfl, h1⟩
  | d :: ds, _, i + 1, x, h, e => by
    cases h with
    | cons h1 h2 =>
      obtain ⟨v, h3, h4⟩ := RA.getV (i := i) (v := x) h2 (by simpa using e)
      exact ⟨v, by simpa using h3, h4⟩
theorem RA.append : ∀ {ds es : List PyData} {vs ws : List V}, RA K H vs ds → RA K H ws es → RA K H (vs ++ ws) (ds ++ es)
  | [], _, _, _, h, g => by cases h; exact g
  | d :: ds, es, _, ws, h, g => by
    cases h with
    | cons h1 h2 => exact .cons h1 (RA.append h2 g)
theorem RA.ints : ∀ {ns : List Int}, RA K H (ns.map V.int) (ns.map PyData.int)
  | [] => .nil
  | n :: ns => .cons (.int n) RA.ints
theorem RA.ofInts : ∀ {ns : List Int} {vs : List V}, RA K H vs (ns.map PyData.int) → vs = ns.map V.int
  | [], _, h => by cases h; rfl
  | n :: ns, _, h => by
    cases h with
    | cons h1 h2 =>
      cases h1
      rw [RA.ofInts h2]
      rfl
end

/-! ### what is owned: lists that nobody else holds, with data within -/
inductive OT where
  | d (x : PyData) | l (xs : List OT) | t (xs : List OT) | ob (p C : Addr) (ks : List Str) (xs : List OT) | la (p : Addr) (xs : List OT)
/-- what may be owned in a heap: lists, instances -/
def OwO (o : HO) : Prop := (∃ xs, o = .lst xs) ∨ ∃ C dx fs, o = .ins C dx fs
mutual
inductive Own (K : PySem.W.Frag) (W : List Addr) (H : Hp) : V → OT → List Addr → Prop
  | d {v : V} {x : PyData} : R K (fz W H) v x → Own K W H v (.d x) []
  | l {p : Addr} {vs : List V} {ts : List OT} {F : List Addr} : p ∈ W → H p = some (.lst vs) → Owns K W H vs ts F → Own K W H (.ref p) (.l ts) (p :: F)
  | t {a : Addr} {vs : List V} {ts : List OT} {F : List Addr} : fz W H a = some (.tup vs) → Owns K W H vs ts F → Own K W H (.ref a) (.t ts) F
  | ob {p C dx : Addr} {fs : List (Str × V)} {ks : List Str} {ts : List OT} {F : List Addr} : p ∈ W → H p = some (.ins C dx fs) → InsC K C → fs.map (·.1) = ks → Owns K W H (fs.map (·.2)) ts F → Own K W H (.ref p) (.ob p C ks ts) (p :: F)
  | la {p : Addr} {vs : List V} {ts : List OT} {F : List Addr} : p ∈ W → H p = some (.lst vs) → Owns K W H vs ts F → Own K W H (.ref p) (.la p ts) (p :: F)
inductive Owns (K : PySem.W.Frag) (W : List Addr) (H : Hp) : List V → List OT → List Addr → Prop
  | nil : Owns K W H [] [] []
  | cons {v : V} {t : OT} {F : List Addr} {vs : List V} {ts : List OT} {G : List Addr} : Own K W H v t F → Owns K W H vs ts G → Owns K W H (v :: vs) (t :: ts) (F ++ G)
end
section
variable {K : PySem.W.Frag} {W W' : List Addr} {H H' : Hp}
mutual
theorem Own.mono (e : Same (fz W H) (fz W' H')) : ∀ (t : OT) (v : V) (F : List Addr), (∀ a ∈ F, a ∈ W' ∧ H' a = H a) → Own K W H v t F → Own K W' H' v t F
  | .d x, v, F, _, h => by
    cases h with
    | d r => exact .d (R.same e x v r)
  | .l ts, v, F, hF, h => by
    cases h with
    | l hp hl ho =>
      refine .l (hF _ List.mem_cons_self).1 ((hF _ List.mem_cons_self).2.trans hl) (Owns.mono e ts _ _ (fun a ha => hF a (List.mem_cons_of_mem _ ha)) ho)
  | .t ts, v, F, hF, h => by
    cases h with
    | t hs ho => exact .t (e _ _ hs) (Owns.mono e ts _ _ hF ho)
  | .ob p C ks ts, v, F, hF, h => by
    cases h with
    | ob hp hl hc hk ho =>
      exact .ob (hF _ List.mem_cons_self).1 ((hF _ List.mem_cons_self).2.trans hl) hc hk (Owns.mono e ts _ _ (fun a ha => hF a (List.mem_cons_of_mem _ ha)) ho)
  | .la p ts, v, F, hF, h => by
    cases h with
    | la hp hl ho =>
      refine .la (hF _ List.mem_cons_self).1 ((hF _ List.mem_cons_self).2.trans hl) (Owns.mono e ts _ _ (fun a ha => hF a (List.mem_cons_of_mem _ ha)) ho)
theorem Owns.mono (e : Same (fz W H) (fz W' H')) : ∀ (ts : List OT) (vs : List V) (F : List Addr), (∀ a ∈ F, a ∈ W' ∧ H' a = H a) → Owns K W H vs ts F → Owns K W' H' vs ts F
  | [], vs, F, _, h => by cases h; exact .nil
  | t :: ts, vs, F, hF, h => by
    cases h with
    | cons h1 h2 => exact .cons (Own.mono e t _ _ (fun a ha => hF a (List.mem_append_left _ ha)) h1) (Owns.mono e ts _ _ (fun a ha => hF a (List.mem_append_right _ ha)) h2)
end
mutual
theorem Own.sub : ∀ (t : OT) (v : V) (F : List Addr), Own K W H v t F → ∀ a ∈ F, a ∈ W ∧ ∃ o, H a = some o ∧ OwO o
  | .d x, v, F, h => by cases h; intro a ha; cases ha
  | .l ts, v, F, h => by
    cases h with
    | l hp hl ho =>
      intro a ha
      rcases List.mem_cons.mp ha with e | ha
      · subst e; exact ⟨hp, _, hl, .inl ⟨_, rfl⟩⟩
      · exact Owns.sub ts _ _ ho a ha
  | .t ts, v, F, h => by
    cases h with
    | t hs ho => exact Owns.sub ts _ _ ho
  | .ob p C ks ts, v, F, h => by
    cases h with
    | ob hp hl hc hk ho =>
      intro a ha
      rcases List.mem_cons.mp ha with e | ha
      · subst e; exact ⟨hp, _, hl, .inr ⟨_, _, _, rfl⟩⟩
      · exact Owns.sub ts _ _ ho a ha
  | .la p ts, v, F, h => by
    cases h with
    | la hp hl ho =>
      intro a ha
      rcases List.mem_cons.mp ha with e | ha
      · subst e; exact ⟨hp, _, hl, .inl ⟨_, rfl⟩⟩
      · exact Owns.sub ts _ _ ho a ha
theorem Owns.sub : ∀ (ts : List OT) (vs : List V) (F : List Addr), Owns K W H vs ts F → ∀ a ∈ F, a ∈ W ∧ ∃ o, H a = some o ∧ OwO o
  | [], vs, F, h => by cases h; intro a ha; cases ha
  | t :: ts, vs, F, h => by
    cases h with
    | cons h1 h2 =>
      intro a ha
      rcases List.mem_append.mp ha with ha | ha
      · exact Own.sub t _ _ h1 a ha
      · exact Owns.sub ts _ _ h2 a ha
end
mutual
/-- the data of it -/
def OT.dat : OT → PyData
  | .d x => x
  | .l ts => .list (dats ts)
  | .t ts => .tuple (dats ts)
  | .ob p C ks ts => .dict [(.list (.int (C : Int) :: ks.map PyData.str), .list (dats ts))]
  | .la p ts => .list (dats ts)
def dats : List OT → List PyData
  | [] => []
  | t :: ts => t.dat :: dats ts
end
mutual
/-- owned things read as data of the whole heap -/
theorem Own.rd : ∀ (t : OT) (v : V) (F : List Addr), Own K W H v t F → (∀ a o, a ∉ W → H a = some o → a ∉ W' ∧ H' a = some o) → (∀ a ∈ F, a ∉ W' ∧ H' a = H a) → R K (fz W' H') v t.dat
  | .d x, v, F, h, e, _ => by
    cases h with
    | d r => exact R.same (fz_mono e) x v r
  | .l ts, v, F, h, e, hF => by
    cases h with
    | l hp hl ho =>
      refine .lst (.inl (.inl ?_)) (Owns.rd ts _ _ ho e fun a ha => hF a (List.mem_cons_of_mem _ ha))
      rw [fz_of (hF _ List.mem_cons_self).1, (hF _ List.mem_cons_self).2]
      exact hl
  | .t ts, v, F, h, e, hF => by
    cases h with
    | t hs ho => exact .tup (.inl (.inl (fz_mono e _ _ hs))) (Owns.rd ts _ _ ho e hF)
  | .ob p C ks ts, v, F, h, e, hF => by
    cases h with
    | @ob _ _ dx fs _ _ F hp hl hc hk ho =>
      subst hk
      have h3 : fz W' H' p = some (.ins C dx fs) := by
        rw [fz_of (hF _ List.mem_cons_self).1, (hF _ List.mem_cons_self).2]
        exact hl
      exact .obj h3 hc (Owns.rd ts _ _ ho e fun a ha => hF a (List.mem_cons_of_mem _ ha))
  | .la p ts, v, F, h, e, hF => by
    cases h with
    | la hp hl ho =>
      refine .lst (.inl (.inl ?_)) (Owns.rd ts _ _ ho e fun a ha => hF a (List.mem_cons_of_mem _ ha))
      rw [fz_of (hF _ List.mem_cons_self).1, (hF _ List.mem_cons_self).2]
      exact hl
theorem Owns.rd : ∀ (ts : List OT) (vs : List V) (F : List Addr), Owns K W H vs ts F → (∀ a o, a ∉ W → H a = some o → a ∉ W' ∧ H' a = some o) → (∀ a ∈ F, a ∉ W' ∧ H' a = H a) → RA K (fz W' H') vs (dats ts)
  | [], vs, F, h, _, _ => by cases h; exact .nil
  | t :: ts, vs, F, h, e, hF => by
    cases h with
    | cons h1 h2 => exact .cons (Own.rd t _ _ h1 e fun a ha => hF a (List.mem_append_left _ ha)) (Owns.rd ts _ _ h2 e fun a ha => hF a (List.mem_append_right _ ha))
end
theorem Owns.get : ∀ {ts : List OT} {vs : List V} {F : List Addr} {i : Nat} {t : OT}, Owns K W H vs ts F → ts[i]? = some t → ∃ v G, vs[i]? = some v ∧ Own K W H v t G ∧ (∀ a ∈ G, a ∈ F) ∧ (F.Nodup → G.Nodup)
  | [], _, _, i, x, h, e => by simp at e
  | d :: ds, _, _, 0, x, h, e => by
    cases h with
    | cons h1 h2 =>
      cases (Option.some.inj e : d = x)
      exact ⟨_, _, rfl, h1, fun a ha => List.mem_append_left _ ha, fun n => (List.nodup_append.mp n).1⟩
  | d :: ds, _, _, i + 1, x, h, e => by
    cases h with
    | cons h1 h2 =>
      obtain ⟨v, G, h3, h4, h5, h6⟩ := Owns.get (i := i) (t := x) h2 (by simpa using e)
      exact ⟨v, G, by simpa using h3, h4, fun a ha => List.mem_append_right _ (h5 a ha), fun n => h6 (List.nodup_append.mp n).2.1⟩
theorem Owns.length : ∀ {ts : List OT} {vs : List V} {F : List Addr}, Owns K W H vs ts F → vs.length = ts.length
  | [], _, _, h => by cases h; rfl
  | d :: ds, _, _, h => by
    cases h with
    | cons h1 h2 => simp [Owns.length h2]
theorem Owns.ofRA : ∀ {ds : List PyData} {vs : List V}, RA K (fz W H) vs ds → Owns K W H vs (ds.map .d) []
  | [], _, h => by cases h; exact .nil
  | d :: ds, _, h => by
    cases h with
    | cons h1 h2 => exact .cons (F := []) (G := []) (.d h1) (Owns.ofRA h2)
end
theorem dats_d : ∀ (xs : List PyData), dats (xs.map .d) = xs
  | [] => rfl
  | x :: xs => by simp [dats, OT.dat, dats_d xs]
/-! ### a frame's names -/
inductive Sl where
  | no | o (t : OT) | raw (v : V) | fx (v : V) (x : PyData)
abbrev Sl.v (x : PyData) : Sl := .o (.d x)
inductive Slots (K : PySem.W.Frag) (W : List Addr) (H : Hp) : L2.St → List Sl → List Addr → Prop
  | nil : Slots K W H [] [] []
  | no {x : Option V} {σ : L2.St} {E : List Sl} {F : List Addr} : Slots K W H σ E F → Slots K W H (x :: σ) (.no :: E) F
  | raw {v : V} {σ : L2.St} {E : List Sl} {F : List Addr} : Slots K W H σ E F → Slots K W H (some v :: σ) (.raw v :: E) F
  | fx {v : V} {x : PyData} {σ : L2.St} {E : List Sl} {F : List Addr} : R K (fz W H) v x → Slots K W H σ E F → Slots K W H (some v :: σ) (.fx v x :: E) F
  | o {v : V} {t : OT} {G : List Addr} {σ : L2.St} {E : List Sl} {F : List Addr} : Own K W H v t G → Slots K W H σ E F → Slots K W H (some v :: σ) (.o t :: E) (G ++ F)
section
variable {K : PySem.W.Frag} {W W' : List Addr} {H H' : Hp} {σ : L2.St} {E : List Sl} {F : List Addr}
theorem Slots.mono (e : Same (fz W H) (fz W' H')) (h : Slots K W H σ E F) (hF : ∀ a ∈ F, a ∈ W' ∧ H' a = H a) : Slots K W' H' σ E F := by
  induction h with
  | nil => exact .nil
  | no _ ih => exact .no (ih hF)
  | raw _ ih => exact .raw (ih hF)
  | fx r _ ih => exact .fx (R.same e _ _ r) (ih hF)
  | o ho _ ih => exact .o (Own.mono e _ _ _ (fun a ha => hF a (List.mem_append_left _ ha)) ho) (ih fun a ha => hF a (List.mem_append_right _ ha))
theorem Slots.sub (h : Slots K W H σ E F) : ∀ a ∈ F, a ∈ W ∧ ∃ o, H a = some o ∧ OwO o := by
  induction h with
  | nil => intro a ha; cases ha
  | no _ ih => exact ih
  | raw _ ih => exact ih
  | fx _ _ ih => exact ih
  | o ho _ ih =>
    intro a ha
    rcases List.mem_append.mp ha with ha | ha
    · exact Own.sub _ _ _ ho a ha
    · exact ih a ha
theorem Slots.get (h : Slots K W H σ E F) : ∀ {i : Nat} {t : OT}, E[i]? = some (.o t) → ∃ v G, σ[i]? = some (some v) ∧ Own K W H v t G ∧ (∀ a ∈ G, a ∈ F) ∧ (F.Nodup → G.Nodup) := by
  induction h with
  | nil => intro i t e; simp at e
  | no _ ih =>
    intro i t e
    cases i with
    | zero => simp at e
    | succ i => exact ih (by simpa using e)
  | raw _ ih =>
    intro i t e
    cases i with
    | zero => simp at e
    | succ i => exact ih (by simpa using e)
  | fx _ _ ih =>
    intro i t e
    cases i with
    | zero => simp at e
    | succ i => exact ih (by simpa using e)
  | o ho _ ih =>
    intro i t e
    cases i with
    | zero =>
      cases Option.some.inj e
      exact ⟨_, _, rfl, ho, fun a ha => List.mem_append_left _ ha, fun n => (List.nodup_append.mp n).1⟩
    | succ i =>
      obtain ⟨v, G, h1, h2, h3, h4⟩ := ih (by simpa using e)
      exact ⟨v, G, h1, h2, fun a ha => List.mem_append_right _ (h3 a ha), fun n => h4 (List.nodup_append.mp n).2.1⟩
/-- a name gets something new -/
theorem Slots.set {v : V} {t : OT} {G : List Addr} (ho : Own K W H v t G) (nG : G.Nodup) (h : Slots K W H σ E F) : ∀ (i : Nat), i < E.length → F.Nodup → (∀ a ∈ G, a ∉ F) →
    ∃ F', Slots K W H (σ.set i (some v)) (E.set i (.o t)) F' ∧ F'.Nodup ∧ ∀ a ∈ F', a ∈ F ∨ a ∈ G := by
  induction h with
  | nil => intro i hi; simp at hi
  | no hs ih =>
    intro i hi nF dj
    cases i with
    | zero => exact ⟨_, .o ho hs, List.nodup_append.mpr ⟨nG, nF, fun a ha b hb e => dj a ha (e ▸ hb)⟩, fun a ha => (List.mem_append.mp ha).symm⟩
    | succ i =>
      obtain ⟨F', h1, h2, h3⟩ := ih i (by simpa using hi) nF dj
      exact ⟨F', .no h1, h2, h3⟩
  | raw hs ih =>
    intro i hi nF dj
    cases i with
    | zero => exact ⟨_, .o ho hs, List.nodup_append.mpr ⟨nG, nF, fun a ha b hb e => dj a ha (e ▸ hb)⟩, fun a ha => (List.mem_append.mp ha).symm⟩
    | succ i =>
      obtain ⟨F', h1, h2, h3⟩ := ih i (by simpa using hi) nF dj
      exact ⟨F', .raw h1, h2, h3⟩
  | fx r hs ih =>
    intro i hi nF dj
    cases i with
    | zero => exact ⟨_, .o ho hs, List.nodup_append.mpr ⟨nG, nF, fun a ha b hb e => dj a ha (e ▸ hb)⟩, fun a ha => (List.mem_append.mp ha).symm⟩
    | succ i =>
      obtain ⟨F', h1, h2, h3⟩ := ih i (by simpa using hi) nF dj
      exact ⟨F', .fx r h1, h2, h3⟩
  | @o v1 t1 G1 σ1 E1 F1 ho1 hs ih =>
    intro i hi nF dj
    obtain ⟨n1, n2, n3⟩ := List.nodup_append.mp nF
    cases i with
    | zero => exact ⟨_, .o ho hs, List.nodup_append.mpr ⟨nG, n2, fun a ha b hb e => dj a ha (List.mem_append_right _ (e ▸ hb))⟩, fun a ha => (List.mem_append.mp ha).elim .inr fun q => .inl (List.mem_append_right _ q)⟩
    | succ i =>
      obtain ⟨F', h1, h2, h3⟩ := ih i (by simpa using hi) n2 (fun a ha hb => dj a ha (List.mem_append_right _ hb))
      refine ⟨_, .o ho1 h1, List.nodup_append.mpr ⟨n1, h2, fun a ha b hb e => ?_⟩, fun a ha => ?_⟩
      · subst e
        rcases h3 a hb with q | q
        · exact n3 a ha a q rfl
        · exact dj a q (List.mem_append_left _ ha)
      · rcases List.mem_append.mp ha with q | q
        · exact .inl (List.mem_append_left _ q)
        · exact (h3 a q).imp (List.mem_append_right _) id
theorem Slots.length (h : Slots K W H σ E F) : σ.length = E.length := by
  induction h with
  | nil => rfl
  | no _ ih => simp [ih]
  | raw _ ih => simp [ih]
  | fx _ _ ih => simp [ih]
  | o _ _ ih => simp [ih]
theorem Slots.start (ws : List V) (xs : List PyData) (k : Nat) (h : RA K (fz W H) ws xs) : Slots K W H (ws.map some ++ List.replicate k none) (xs.map Sl.v ++ List.replicate k .no) [] := by
  induction xs generalizing ws with
  | nil =>
    cases h
    show Slots K W H (List.replicate k none) (List.replicate k .no) []
    induction k with
    | zero => exact .nil
    | succ k ih => exact .no ih
  | cons x xs ih =>
    cases h with
    | cons h1 h2 => exact .o (G := []) (.d h1) (ih _ h2)
end
/-- the frame's names hold E; M: hidden by those who called; L: the lists that are this frame's own -/
structure EnvR (K : PySem.W.Frag) (M L : List Addr) (H : Hp) (σ : L2.St) (E : List Sl) : Prop where
  ex : ∃ F, Slots K (L ++ M) H σ E F ∧ F.Nodup ∧ ∀ a ∈ F, a ∈ L
  dom : ∀ a, a ∈ L ++ M → H a ≠ none
  dj : ∀ a, a ∈ L → a ∉ M
theorem not_none_same {H H' : Hp} {a : Addr} (e : Same H H') (h : H a ≠ none) : H' a ≠ none := fun q => by
  cases g : H a with
  | none => exact h g
  | some o => rw [e a o g] at q; cases q
theorem eq_same {H H' : Hp} {a : Addr} {o : HO} (e : Same H H') (h : H a = some o) : H' a = H a := by rw [h, e a o h]
section
variable {K : PySem.W.Frag} {M L L' : List Addr} {H H' : Hp} {σ : L2.St} {E : List Sl}
theorem EnvR.same (e : Same H H') (h : EnvR K M L H σ E) : EnvR K M L H' σ E := by
  obtain ⟨⟨F, hs, nF, hL⟩, dom, dj⟩ := h
  refine ⟨⟨F, hs.mono (fz_same e) (fun a ha => ?_), nF, hL⟩, fun a ha => not_none_same e (dom a ha), dj⟩
  obtain ⟨h1, vs, h2, _⟩ := hs.sub a ha
  exact ⟨h1, eq_same e h2⟩
/-- new lists come -/
theorem EnvR.more {F : List Addr} (e : Same H H') (hF : ∀ a ∈ F, H a = none ∧ H' a ≠ none) (h : EnvR K M L H σ E) : EnvR K M (F ++ L) H' σ E := by
  obtain ⟨⟨G, hs, nG, hL⟩, dom, dj⟩ := h
  refine ⟨⟨G, hs.mono (fz_mono fun a o n q => ⟨fun z => ?_, e a o q⟩) (fun a ha => ?_), nG, fun a ha => List.mem_append_right _ (hL a ha)⟩, fun a ha => ?_, fun a ha => ?_⟩
  · rw [List.append_assoc] at z
    rcases List.mem_append.mp z with z | z
    · rw [(hF a z).1] at q; cases q
    · exact n z
  · obtain ⟨h1, vs, h2, _⟩ := hs.sub a ha
    exact ⟨by rw [List.append_assoc]; exact List.mem_append_right _ h1, eq_same e h2⟩
  · rw [List.append_assoc] at ha
    rcases List.mem_append.mp ha with z | z
    · exact (hF a z).2
    · exact not_none_same e (dom a z)
  · rcases List.mem_append.mp ha with z | z
    · exact fun m => dom a (List.mem_append_right _ m) (hF a z).1
    · exact dj a z
theorem EnvR.get {i : Nat} {t : OT} (h : EnvR K M L H σ E) (e : E[i]? = some (.o t)) : ∃ v G, σ[i]? = some (some v) ∧ Own K (L ++ M) H v t G ∧ (∀ a ∈ G, a ∈ L) ∧ G.Nodup := by
  obtain ⟨⟨F, hs, nF, hL⟩, dom, dj⟩ := h
  obtain ⟨v, G, h1, h2, h3, h4⟩ := hs.get e
  exact ⟨v, G, h1, h2, fun a ha => hL a (h3 a ha), h4 nF⟩
theorem EnvR.getD {i : Nat} {x : PyData} (h : EnvR K M L H σ E) (e : E[i]? = some (.o (.d x))) : ∃ v, σ[i]? = some (some v) ∧ R K (fz (L ++ M) H) v x := by
  obtain ⟨v, G, h1, h2, _⟩ := h.get e
  cases h2 with
  | d r => exact ⟨v, h1, r⟩
theorem EnvR.setD {i : Nat} {v : V} {x : PyData} (h : EnvR K M L H σ E) (hi : i < E.length) (r : R K (fz (L ++ M) H) v x) : EnvR K M L H (σ.set i (some v)) (E.set i (.o (.d x))) := by
  obtain ⟨⟨F, hs, nF, hL⟩, dom, dj⟩ := h
  obtain ⟨F', h1, h2, h3⟩ := hs.set (G := []) (.d r) List.nodup_nil i hi nF (fun a ha => by cases ha)
  exact ⟨⟨F', h1, h2, fun a ha => (h3 a ha).elim (hL a) fun z => by cases z⟩, dom, dj⟩
/-- a name gets something new, its lists become the frame's -/
theorem EnvR.setN {i : Nat} {v : V} {t : OT} {F : List Addr} (h : EnvR K M L H σ E) (hi : i < E.length) (e : Same H H') (hF : ∀ a ∈ F, H a = none) (nF : F.Nodup) (ho : Own K (F ++ (L ++ M)) H' v t F) :
    EnvR K M (F ++ L) H' (σ.set i (some v)) (E.set i (.o t)) := by
  have h2 : EnvR K M (F ++ L) H' σ E := h.more e fun a ha => ⟨hF a ha, fun z => by
    obtain ⟨_, vs, q, _⟩ := Own.sub _ _ _ ho a ha
    rw [q] at z; cases z⟩
  obtain ⟨⟨G0, hs0, nG0, hL0⟩, dom0, dj0⟩ := h
  have hs2 : Slots K (F ++ L ++ M) H' σ E G0 := hs0.mono (fz_mono fun a o n q => ⟨fun z => by
      rw [List.append_assoc] at z
      rcases List.mem_append.mp z with z | z
      · rw [hF a z] at q; cases q
      · exact n z, e a o q⟩) (fun a ha => by
        obtain ⟨h1, vs, h3, _⟩ := hs0.sub a ha
        exact ⟨by rw [List.append_assoc]; exact List.mem_append_right _ h1, eq_same e h3⟩)
  rw [← List.append_assoc] at ho
  obtain ⟨F', h3, h4, h5⟩ := hs2.set ho nF i hi nG0 (fun a ha hb => dom0 a (List.mem_append_left _ (hL0 a hb)) (hF a ha))
  exact ⟨⟨F', h3, h4, fun a ha => (h5 a ha).elim (fun z => List.mem_append_right _ (hL0 a z)) fun z => List.mem_append_left _ z⟩, h2.dom, h2.dj⟩
end
end D

end

section
set_option Elab.async false
set_option linter.all false
set_option maxRecDepth 100000
set_option maxHeartbeats 2000000
namespace D
open PySem L2

/-! ### expressions -/
def EvE (K : PySem.W.Frag) (te : TE) (E : List Sl) (x : PyData) : Prop :=
  ∀ (M L : List Addr) (H : Hp) (σ : L2.St) (Q : VK), EnvR K M L H σ E → (∀ v H', Same H H' → R K (fz (L ++ M) H') v x → Q v H') → te σ H Q
def EvA (K : PySem.W.Frag) (ta : TA) (E : List Sl) (xs : List PyData) : Prop :=
  ∀ (M L : List Addr) (H : Hp) (σ : L2.St) (Q : List V → Hp → Prop), EnvR K M L H σ E → (∀ vs H', Same H H' → RA K (fz (L ++ M) H') vs xs → Q vs H') → ta σ H Q
/-- what is new, nobody holds it -/
def EvN (K : PySem.W.Frag) (te : TE) (E : List Sl) (t : OT) : Prop :=
  ∀ (M L : List Addr) (H : Hp) (σ : L2.St) (Q : VK), EnvR K M L H σ E → (∀ v H' F, Same H H' → F.Nodup → (∀ a ∈ F, H a = none) → Own K (F ++ (L ++ M)) H' v t F → Q v H') → te σ H Q
/-- what the frame holds -/
def EvB (K : PySem.W.Frag) (te : TE) (E : List Sl) (t : OT) : Prop :=
  ∀ (M L : List Addr) (H : Hp) (σ : L2.St) (Q : VK), EnvR K M L H σ E → (∀ v H' F, Same H H' → F.Nodup → (∀ a ∈ F, a ∈ L) → Own K (L ++ M) H' v t F → Q v H') → te σ H Q
def EvT (K : PySem.W.Frag) (tt : TT) (E : List Sl) (b : Bool) : Prop :=
  ∀ (M L : List Addr) (H : Hp) (σ : L2.St) (Q : Bool → Hp → Prop), EnvR K M L H σ E → (∀ H', Same H H' → Q b H') → tt σ H Q
structure DE (X : Cx) (E : List Sl) (e : Expr) (x : PyData) : Prop where
  ex : ∃ te, PE X e te ∧ EvE X.K te E x
structure DN (X : Cx) (E : List Sl) (e : Expr) (t : OT) : Prop where
  ex : ∃ te, PE X e te ∧ EvN X.K te E t
structure DB (X : Cx) (E : List Sl) (e : Expr) (t : OT) : Prop where
  ex : ∃ te, PE X e te ∧ EvB X.K te E t
structure DA (X : Cx) (E : List Sl) (es : List Expr) (xs : List PyData) : Prop where
  ex : ∃ ta, PA X es ta ∧ EvA X.K ta E xs
structure DT (X : Cx) (E : List Sl) (e : Expr) (b : Bool) : Prop where
  ex : ∃ tt, PT X e tt ∧ EvT X.K tt E b
structure DW (X : Cx) (E : List Sl) (e : Expr) (b : Bool) : Prop where
  ex : ∃ tt, PW X e tt ∧ EvT X.K tt E b
section
variable {X : Cx} {E : List Sl} {e a b c : Expr} {es : List Expr} {x y z : PyData} {xs : List PyData} {pos : Pos} {i j : Int} {p q : Bool}
theorem DE.toN (h : DE X E e x) : DN X E e (.d x) := by
  obtain ⟨te, h1, h2⟩ := h
  exact ⟨te, h1, fun M L H σ Q I k => h2 M L H σ Q I fun v H' s r => k v H' [] s List.nodup_nil (fun a ha => by cases ha) (.d r)⟩
theorem DE.toB (h : DE X E e x) : DB X E e (.d x) := by
  obtain ⟨te, h1, h2⟩ := h
  exact ⟨te, h1, fun M L H σ Q I k => h2 M L H σ Q I fun v H' s r => k v H' [] s List.nodup_nil (fun a ha => by cases ha) (.d r)⟩
theorem DB.toE (h : DB X E e (.d x)) : DE X E e x := by
  obtain ⟨te, h1, h2⟩ := h
  exact ⟨te, h1, fun M L H σ Q I k => h2 M L H σ Q I fun v H' F s _ _ o => by
    cases o with
    | d r => exact k v H' s r⟩
/-- what is new may be shared from now on -/
theorem DN.toE {t : OT} (h : DN X E e t) : DE X E e t.dat := by
  obtain ⟨te, h1, h2⟩ := h
  refine ⟨te, h1, fun M L H σ Q I k => h2 M L H σ Q I fun v H' F s n hF o => k v H' s ?_⟩
  refine Own.rd _ _ _ o (fun a o n e => ⟨fun z => n (List.mem_append_right _ z), e⟩) fun a ha => ⟨fun z => ?_, rfl⟩
  exact I.dom a z (hF a ha)
theorem DE.cast (h : DE X E e x) (q : x = y) : DE X E e y := q ▸ h
theorem DN.cast {t u : OT} (h : DN X E e t) (q : t = u) : DN X E e u := q ▸ h
theorem db_v {t : OT} (i : Nat) (h : PE X e (tVar i)) (g : E[i]? = some (.o t) := by rfl) : DB X E e t :=
  ⟨_, h, fun M L H σ Q I k => by
    obtain ⟨v, G, h1, h2, h3, h4⟩ := I.get g
    exact ⟨v, h1, k v H G (Same.refl H) h4 h3 h2⟩⟩
theorem de_v (i : Nat) (h : PE X e (tVar i)) (g : E[i]? = some (.o (.d x)) := by rfl) : DE X E e x := (db_v i h g).toE
theorem de_c {v : V} (h : PE X e (tC v)) (r : ∀ K H, R K H v x) : DE X E e x := ⟨_, h, fun M L H σ Q I k => k v H (Same.refl H) (r _ _)⟩
theorem de_int {j} : DE X E (.Constant (.int i) j pos) (.int i) := de_c pe_int fun _ _ => .int i
theorem de_bl {j} : DE X E (.Constant (.bool p) j pos) (.bool p) := de_c pe_bl fun _ _ => .bl p
theorem de_non {j} : DE X E (.Constant .none j pos) .none := de_c pe_non fun _ _ => .non
theorem de_str {j} {s : Str} : DE X E (.Constant (.str s) j pos) (.str s) := de_c pe_str fun _ _ => .str s
/-- a constant of the module that is data -/
theorem de_glob {s : Str} {v : V} {u : Value} (hg : Gl X s) (hm : X.mg s = some u) (rv : RelV v u) (r : ∀ M L H σ, EnvR X.K M L H σ E → R X.K (fz (L ++ M) H) v x) (hd : (s == ("__debug__" : Str)) = false := by decide) : DE X E (.Name s pos) x :=
  ⟨_, pe_glob hg hm rv hd, fun M L H σ Q I k => k v H (Same.refl H) (r M L H σ I)⟩

/-! two operands -/
theorem ev_2 {r : R2} {ta tb : TE} (ha : EvE X.K ta E x) (hb : EvE X.K tb E y) (hr : ∀ (M L : List Addr) (H : Hp) (σ : L2.St) (v w : V) (Q : VK), EnvR X.K M L H σ E → R X.K (fz (L ++ M) H) v x → R X.K (fz (L ++ M) H) w y → (∀ u H', Same H H' → R X.K (fz (L ++ M) H') u z → Q u H') → r v w H Q) : EvE X.K (tOp r ta tb) E z :=
  fun M L H σ Q I k => ha M L H σ _ I fun v H1 s1 r1 => hb M L H1 σ _ (I.same s1) fun w H2 s2 r2 =>
    hr M L H2 σ v w Q (I.same (s1.trans s2)) (R.same (fz_same s2) x v r1) r2 fun u H3 s3 r3 => k u H3 ((s1.trans s2).trans s3) r3
theorem de_bin {op : Operator} {r : R2} (ho : OpR X (binaryOp op) r) (ha : DE X E a x) (hb : DE X E b y) (hr : ∀ (M L : List Addr) (H : Hp) (σ : L2.St) (v w : V) (Q : VK), EnvR X.K M L H σ E → R X.K (fz (L ++ M) H) v x → R X.K (fz (L ++ M) H) w y → (∀ u H', Same H H' → R X.K (fz (L ++ M) H') u z → Q u H') → r v w H Q) : DE X E (.BinOp a op b pos) z := by
  obtain ⟨ta, a1, a2⟩ := ha
  obtain ⟨tb, b1, b2⟩ := hb
  exact ⟨_, pe_op ho a1 b1, ev_2 a2 b2 hr⟩
theorem de_cmp {op : CmpOp} {r : R2} (ho : OpR X (compareOp op) r) (ha : DE X E a x) (hb : DE X E b y) (hr : ∀ (M L : List Addr) (H : Hp) (σ : L2.St) (v w : V) (Q : VK), EnvR X.K M L H σ E → R X.K (fz (L ++ M) H) v x → R X.K (fz (L ++ M) H) w y → (∀ u H', Same H H' → R X.K (fz (L ++ M) H') u z → Q u H') → r v w H Q)
    (hm : behindInMarks op b = false) : DE X E (.Compare a [op] [b] pos) z := by
  obtain ⟨ta, a1, a2⟩ := ha
  obtain ⟨tb, b1, b2⟩ := hb
  exact ⟨_, pe_cmpR ho a1 b1 hm, ev_2 a2 b2 hr⟩
theorem dt_cmp {op : CmpOp} {r : R2} (ho : OpR X (compareOp op) r) (ha : DE X E a x) (hb : DE X E b y) (hr : ∀ (M L : List Addr) (H : Hp) (σ : L2.St) (v w : V) (Q : VK), EnvR X.K M L H σ E → R X.K (fz (L ++ M) H) v x → R X.K (fz (L ++ M) H) w y → (∀ u H', Same H H' → R X.K (fz (L ++ M) H') u (.bool p) → Q u H') → r v w H Q)
    (hm : behindInMarks op b = false) : DT X E (.Compare a [op] [b] pos) p := by
  obtain ⟨ta, a1, a2⟩ := ha
  obtain ⟨tb, b1, b2⟩ := hb
  refine ⟨_, pt_cmpR ho a1 b1 hm, fun M L H σ Q I k => ?_⟩
  refine ev_2 a2 b2 hr M L H σ _ I fun v H' s r => ?_
  cases r
  exact ⟨p, rfl, k H' s⟩
/-- the operators on whole numbers -/
theorem rI_ok {C : Int → Int → Prop} {g : Int → Int → V} (hc : C i j) {M L : List Addr} {H : Hp} {v w : V} {Q : VK} (r1 : R X.K (fz (L ++ M) H) v (.int i)) (r2 : R X.K (fz (L ++ M) H) w (.int j)) (r3 : R X.K (fz (L ++ M) H) (g i j) z) (k : ∀ u H', Same H H' → R X.K (fz (L ++ M) H') u z → Q u H') : rI C g v w H Q := by
  cases r1; cases r2
  exact ⟨i, j, rfl, rfl, hc, k _ H (Same.refl H) r3⟩
theorem rI0_ok {g : Int → Int → V} {M L : List Addr} {H : Hp} {v w : V} {Q : VK} (r1 : R X.K (fz (L ++ M) H) v (.int i)) (r2 : R X.K (fz (L ++ M) H) w (.int j)) (r3 : R X.K (fz (L ++ M) H) (g i j) z) (k : ∀ u H', Same H H' → R X.K (fz (L ++ M) H') u z → Q u H') : rI0 g v w H Q := by
  cases r1; cases r2
  exact ⟨i, j, rfl, rfl, k _ H (Same.refl H) r3⟩
theorem de_add (ha : DE X E a (.int i)) (hb : DE X E b (.int j)) : DE X E (.BinOp a .Add b pos) (.int (i + j)) := de_bin op_add ha hb fun M L H σ v w Q I r1 r2 k => rI0_ok r1 r2 (.int _) k
theorem de_sub (ha : DE X E a (.int i)) (hb : DE X E b (.int j)) : DE X E (.BinOp a .Sub b pos) (.int (i - j)) := de_bin op_sub ha hb fun M L H σ v w Q I r1 r2 k => rI0_ok r1 r2 (.int _) k
theorem de_mul (ha : DE X E a (.int i)) (hb : DE X E b (.int j)) (hc : CMul i j) : DE X E (.BinOp a .Mult b pos) (.int (i * j)) := de_bin op_mul ha hb fun M L H σ v w Q I r1 r2 k => rI_ok hc r1 r2 (.int _) k
theorem de_mulW (ha : DE X E a (.int i)) (hb : DE X E b (.int j)) (hc : CMulW i j) : DE X E (.BinOp a .Mult b pos) (.int (i * j)) := de_bin op_mulW ha hb fun M L H σ v w Q I r1 r2 k => rI_ok hc r1 r2 (.int _) k
theorem de_mod (ha : DE X E a (.int i)) (hb : DE X E b (.int j)) (hc : 0 < j) : DE X E (.BinOp a .Mod b pos) (.int (i % j)) := de_bin op_mod ha hb fun M L H σ v w Q I r1 r2 k => rI_ok (C := fun _ j => 0 < j) hc r1 r2 (.int _) k
theorem de_div (ha : DE X E a (.int i)) (hb : DE X E b (.int j)) (hc : CDiv i j) : DE X E (.BinOp a .FloorDiv b pos) (.int (i / j)) := de_bin op_fdiv ha hb fun M L H σ v w Q I r1 r2 k => rI_ok hc r1 r2 (.int _) k
theorem de_divW (ha : DE X E a (.int i)) (hb : DE X E b (.int j)) (hc : CDivW i j) : DE X E (.BinOp a .FloorDiv b pos) (.int (i / j)) := de_bin op_fdivW ha hb fun M L H σ v w Q I r1 r2 k => rI_ok hc r1 r2 (.int _) k
theorem de_pow (ha : DE X E a (.int i)) (hb : DE X E b (.int j)) (hc : CPow i j) : DE X E (.BinOp a .Pow b pos) (.int (i ^ j.toNat)) := de_bin op_pow ha hb fun M L H σ v w Q I r1 r2 k => rI_ok hc r1 r2 (.int _) k
theorem de_neg (ha : DE X E a (.int i)) : DE X E (.UnaryOp .USub a pos) (.int (-i)) := by
  obtain ⟨ta, a1, a2⟩ := ha
  refine ⟨_, pe_un un_neg a1, fun M L H σ Q I k => a2 M L H σ _ I fun v H' s r => ?_⟩
  cases r
  exact ⟨i, rfl, k _ H' s (.int _)⟩

/-! comparisons -/
section
variable {op : CmpOp} {g : Int → Int → Bool}
theorem de_ci (ho : OpR X (compareOp op) (rI0 fun i j => .bl (g i j))) (hm : ∀ b, behindInMarks op b = false) (ha : DE X E a (.int i)) (hb : DE X E b (.int j)) : DE X E (.Compare a [op] [b] pos) (.bool (g i j)) := de_cmp ho ha hb (fun M L H σ v w Q I r1 r2 k => rI0_ok r1 r2 (.bl _) k) (hm b)
theorem dt_ci (ho : OpR X (compareOp op) (rI0 fun i j => .bl (g i j))) (hm : ∀ b, behindInMarks op b = false) (ha : DE X E a (.int i)) (hb : DE X E b (.int j)) : DT X E (.Compare a [op] [b] pos) (g i j) := dt_cmp ho ha hb (fun M L H σ v w Q I r1 r2 k => rI0_ok r1 r2 (.bl _) k) (hm b)
end
theorem de_gt (ha : DE X E a (.int i)) (hb : DE X E b (.int j)) : DE X E (.Compare a [.Gt] [b] pos) (.bool (decide (j < i))) := de_ci op_gt (fun _ => nomark _) ha hb
theorem de_ge (ha : DE X E a (.int i)) (hb : DE X E b (.int j)) : DE X E (.Compare a [.GtE] [b] pos) (.bool (decide (j ≤ i))) := de_ci op_ge (fun _ => nomark _) ha hb
theorem dt_lt (ha : DE X E a (.int i)) (hb : DE X E b (.int j)) : DT X E (.Compare a [.Lt] [b] pos) (decide (i < j)) := dt_ci op_lt (fun _ => nomark _) ha hb
theorem dt_gt (ha : DE X E a (.int i)) (hb : DE X E b (.int j)) : DT X E (.Compare a [.Gt] [b] pos) (decide (j < i)) := dt_ci op_gt (fun _ => nomark _) ha hb
theorem v_eq_int : decide (V.int i = V.int j) = decide (i = j) := by
  by_cases h : i = j
  · simp [h]
  · simp [h]
theorem rEqI {M L : List Addr} {H : Hp} {v w : V} {Q : VK} (r1 : R X.K (fz (L ++ M) H) v (.int i)) (r2 : R X.K (fz (L ++ M) H) w (.int j)) (k : ∀ u H', Same H H' → R X.K (fz (L ++ M) H') u (.bool (decide (i = j))) → Q u H') : rEq v w H Q := by
  cases r1; cases r2
  exact ⟨rfl, k _ H (Same.refl H) (by rw [v_eq_int]; exact .bl _)⟩
theorem rNeI {M L : List Addr} {H : Hp} {v w : V} {Q : VK} (r1 : R X.K (fz (L ++ M) H) v (.int i)) (r2 : R X.K (fz (L ++ M) H) w (.int j)) (k : ∀ u H', Same H H' → R X.K (fz (L ++ M) H') u (.bool (!decide (i = j))) → Q u H') : rNe v w H Q := by
  cases r1; cases r2
  exact ⟨rfl, k _ H (Same.refl H) (by rw [v_eq_int]; exact .bl _)⟩
theorem de_eqI (ha : DE X E a (.int i)) (hb : DE X E b (.int j)) : DE X E (.Compare a [.Eq] [b] pos) (.bool (decide (i = j))) := de_cmp op_eq ha hb (fun M L H σ v w Q I r1 r2 k => rEqI r1 r2 k) (nomark _)
theorem dt_eqI (ha : DE X E a (.int i)) (hb : DE X E b (.int j)) : DT X E (.Compare a [.Eq] [b] pos) (decide (i = j)) := dt_cmp op_eq ha hb (fun M L H σ v w Q I r1 r2 k => rEqI r1 r2 k) (nomark _)
theorem de_neI (ha : DE X E a (.int i)) (hb : DE X E b (.int j)) : DE X E (.Compare a [.NotEq] [b] pos) (.bool (!decide (i = j))) := de_cmp op_ne ha hb (fun M L H σ v w Q I r1 r2 k => rNeI r1 r2 k) (nomark _)
theorem dt_neI (ha : DE X E a (.int i)) (hb : DE X E b (.int j)) : DT X E (.Compare a [.NotEq] [b] pos) (!decide (i = j)) := dt_cmp op_ne ha hb (fun M L H σ v w Q I r1 r2 k => rNeI r1 r2 k) (nomark _)
/-- == of any data -/
theorem rEqD_ok {M L : List Addr} {H : Hp} {v w : V} {Q : VK} (n1 : noDict x = true) (n2 : noDict y = true) (s1 : SeqAt.shaped x = true) (s2 : SeqAt.shaped y = true) (r1 : R X.K (fz (L ++ M) H) v x) (r2 : R X.K (fz (L ++ M) H) w y) (k : ∀ u H', Same H H' → R X.K (fz (L ++ M) H') u (.bool (PyData.eqv x y)) → Q u H') : rEqD X.K v w H Q :=
  ⟨x, y, R.dp _ _ n1 (R.same fz_sub _ _ r1), R.dp _ _ n2 (R.same fz_sub _ _ r2), s1, s2, k _ H (Same.refl H) (.bl _)⟩
theorem rNeD_ok {M L : List Addr} {H : Hp} {v w : V} {Q : VK} (n1 : noDict x = true) (n2 : noDict y = true) (s1 : SeqAt.shaped x = true) (s2 : SeqAt.shaped y = true) (r1 : R X.K (fz (L ++ M) H) v x) (r2 : R X.K (fz (L ++ M) H) w y) (k : ∀ u H', Same H H' → R X.K (fz (L ++ M) H') u (.bool (!PyData.eqv x y)) → Q u H') : rNeD X.K v w H Q :=
  ⟨x, y, R.dp _ _ n1 (R.same fz_sub _ _ r1), R.dp _ _ n2 (R.same fz_sub _ _ r2), s1, s2, k _ H (Same.refl H) (.bl _)⟩
theorem de_eqD (hu : X.A.units + 64 < cLine) (ha : DE X E a x) (hb : DE X E b y) (n1 : noDict x = true) (n2 : noDict y = true) (s1 : SeqAt.shaped x = true) (s2 : SeqAt.shaped y = true) : DE X E (.Compare a [.Eq] [b] pos) (.bool (PyData.eqv x y)) :=
  de_cmp (op_eqD hu) ha hb (fun M L H σ v w Q I r1 r2 k => rEqD_ok n1 n2 s1 s2 r1 r2 k) (nomark _)
theorem dt_neD (hu : X.A.units + 64 < cLine) (ha : DE X E a x) (hb : DE X E b y) (n1 : noDict x = true) (n2 : noDict y = true) (s1 : SeqAt.shaped x = true) (s2 : SeqAt.shaped y = true) : DT X E (.Compare a [.NotEq] [b] pos) (!PyData.eqv x y) :=
  dt_cmp (op_neD hu) ha hb (fun M L H σ v w Q I r1 r2 k => rNeD_ok n1 n2 s1 s2 r1 r2 k) (nomark _)
/-- is None -/
def isNon : PyData → Bool
  | .none => true
  | _ => false
theorem isNon_v {K : PySem.W.Frag} {H : Hp} {v : V} (r : R K H v x) : decide (v = .non) = isNon x := by
  cases r <;> simp [isNon]
theorem dt_isN (ha : DE X E a x) {j p2} : DT X E (.Compare a [.Is] [.Constant .none j p2] pos) (isNon x) :=
  dt_cmp op_isN ha (de_non (E := E)) (fun M L H σ v w Q I r1 r2 k => by cases r2; exact ⟨rfl, k _ H (Same.refl H) (by rw [isNon_v r1]; exact .bl _)⟩) (nomark _)
/-! and, or, not -/
theorem PE.never {X : Cx} {e : Expr} : PE X e (fun _ _ _ => False) := ⟨fun _ _ _ _ _ _ h => h.elim⟩
theorem PT.never {X : Cx} {e : Expr} : PT X e (fun _ _ _ => False) := ⟨fun _ _ _ _ _ _ h => h.elim⟩
theorem PW.never {X : Cx} {e : Expr} : PW X e (fun _ _ _ => False) := ⟨fun _ _ _ _ _ _ _ h => h.elim⟩
theorem dt_val (h : DE X E e (.bool p)) (he : ∀ whole, isTrue e X.env whole = (do let v ← whole; standAt e.pos; holding [v] (truthy v)) := by intro _; rfl) : DT X E e p := by
  obtain ⟨te, h1, h2⟩ := h
  refine ⟨_, pt_val h1 he, fun M L H σ Q I k => h2 M L H σ _ I fun v H' s r => ?_⟩
  cases r
  exact ⟨p, rfl, k H' s⟩
theorem dt_not (h : DT X E a p) : DT X E (.UnaryOp .Not a pos) (!p) := by
  obtain ⟨te, h1, h2⟩ := h
  exact ⟨_, pt_not h1, fun M L H σ Q I k => h2 M L H σ _ I fun H' s => k H' s⟩
theorem DW.toT (h : DW X E e p) : DT X E e p := by
  obtain ⟨te, h1, h2⟩ := h
  exact ⟨te, h1.pt, h2⟩
theorem dw_and1 (h : DT X E a p) : DW X E (.BoolOp .And [a] pos) p := by
  obtain ⟨te, h1, h2⟩ := h
  exact ⟨te, pw_and1 h1, h2⟩
theorem dw_or1 (h : DT X E a p) : DW X E (.BoolOp .Or [a] pos) p := by
  obtain ⟨te, h1, h2⟩ := h
  exact ⟨te, pw_or1 h1, h2⟩
theorem dw_and {rest : List Expr} (ha : DT X E a p) (hb : p = true → DW X E (.BoolOp .And (b :: rest) pos) q) : DW X E (.BoolOp .And (a :: b :: rest) pos) (p && q) := by
  obtain ⟨ta, a1, a2⟩ := ha
  cases p with
  | true =>
    obtain ⟨tb, b1, b2⟩ := hb rfl
    refine ⟨_, pw_and a1 b1, fun M L H σ Q I k => a2 M L H σ _ I fun H1 s1 => ?_⟩
    exact iteT (b2 M L H1 σ _ (I.same s1) fun H2 s2 => k H2 (s1.trans s2))
  | false =>
    refine ⟨_, pw_and a1 PW.never, fun M L H σ Q I k => a2 M L H σ _ I fun H1 s1 => ?_⟩
    exact iteF (k H1 s1)
theorem dw_or {rest : List Expr} (ha : DT X E a p) (hb : p = false → DW X E (.BoolOp .Or (b :: rest) pos) q) : DW X E (.BoolOp .Or (a :: b :: rest) pos) (p || q) := by
  obtain ⟨ta, a1, a2⟩ := ha
  cases p with
  | true =>
    refine ⟨_, pw_or a1 PW.never, fun M L H σ Q I k => a2 M L H σ _ I fun H1 s1 => ?_⟩
    exact iteT (k H1 s1)
  | false =>
    obtain ⟨tb, b1, b2⟩ := hb rfl
    refine ⟨_, pw_or a1 b1, fun M L H σ Q I k => a2 M L H σ _ I fun H1 s1 => ?_⟩
    exact iteF (b2 M L H1 σ _ (I.same s1) fun H2 s2 => k H2 (s1.trans s2))
theorem de_one {op} (h : DE X E a x) : DE X E (.BoolOp op [a] pos) x := by
  obtain ⟨te, h1, h2⟩ := h
  exact ⟨te, pe_one h1, h2⟩
/-- a and b, a or b as a value, a a truth -/
theorem de_and {rest : List Expr} (ha : DE X E a (.bool p)) (hb : p = true → DE X E (.BoolOp .And (b :: rest) pos) (.bool q)) : DE X E (.BoolOp .And (a :: b :: rest) pos) (.bool (p && q)) := by
  obtain ⟨ta, a1, a2⟩ := ha
  cases p with
  | true =>
    obtain ⟨tb, b1, b2⟩ := hb rfl
    refine ⟨_, pe_and a1 b1, fun M L H σ Q I k => a2 M L H σ _ I fun v H1 s1 r1 => ?_⟩
    cases r1
    exact ⟨true, rfl, iteT (b2 M L H1 σ _ (I.same s1) fun v H2 s2 r2 => k v H2 (s1.trans s2) r2)⟩
  | false =>
    refine ⟨_, pe_and a1 PE.never, fun M L H σ Q I k => a2 M L H σ _ I fun v H1 s1 r1 => ?_⟩
    cases r1
    exact ⟨false, rfl, iteF (k _ H1 s1 (.bl _))⟩
theorem de_not (h : DE X E a (.bool p)) : DE X E (.UnaryOp .Not a pos) (.bool (!p)) := by
  obtain ⟨te, h1, h2⟩ := h
  refine ⟨_, pe_not h1, fun M L H σ Q I k => h2 M L H σ _ I fun v H' s r => ?_⟩
  cases r
  exact ⟨p, rfl, k _ H' s (.bl _)⟩
/-! argument lists, tuples, lists -/
theorem da_nil : DA X E [] [] := ⟨_, pa_nil, fun M L H σ Q I k => k [] H (Same.refl H) .nil⟩
theorem da_cons (ha : DE X E e x) (hr : DA X E es xs) (hs : starEach (e :: es) X.env = (false, eval e X.env) :: starEach es X.env := by rfl) : DA X E (e :: es) (x :: xs) := by
  obtain ⟨ta, a1, a2⟩ := ha
  obtain ⟨tr, r1, r2⟩ := hr
  exact ⟨_, pa_cons a1 r1 hs, fun M L H σ Q I k => a2 M L H σ _ I fun v H1 s1 q1 => r2 M L H1 σ _ (I.same s1) fun vs H2 s2 q2 => k (v :: vs) H2 (s1.trans s2) (.cons (R.same (fz_same s2) _ _ q1) q2)⟩
theorem de_tup {x1} (h : DA X E es xs) (hl : Nat.ble xs.length sizeLine = true := by rfl) : DE X E (.Tuple es x1 pos) (.tuple xs) := by
  obtain ⟨ta, a1, a2⟩ := h
  refine ⟨_, pe_tup a1, fun M L H σ Q I k => a2 M L H σ _ I fun vs H1 s1 q1 => ⟨by rw [q1.length]; exact Nat.le_of_ble_eq_true hl, fun p hp => ?_⟩⟩
  have sp : Same H1 (upd H1 p (.tup vs)) := same_new hp
  have np : p ∉ L ++ M := fun z => (I.same s1).dom p z hp
  exact k _ _ (s1.trans sp) (.tup (.inl (.inl (by rw [fz_of np]; exact upd_same))) (RA.same (fz_same sp) _ _ q1))
theorem dn_lst (h : DA X E es xs) (hl : Nat.ble xs.length sizeLine = true := by rfl) : DN X E (.List es pos) (.l (xs.map .d)) := by
  obtain ⟨ta, a1, a2⟩ := h
  refine ⟨_, pe_lst a1, fun M L H σ Q I k => a2 M L H σ _ I fun vs H1 s1 q1 => ⟨by rw [q1.length]; exact Nat.le_of_ble_eq_true hl, fun p hp => ?_⟩⟩
  have sp : Same H1 (upd H1 p (.lst vs)) := same_new hp
  have np : p ∉ L ++ M := fun z => (I.same s1).dom p z hp
  have hp0 : H p = none := s1.free hp
  refine k _ _ [p] (s1.trans sp) (List.nodup_cons.mpr ⟨by simp, List.nodup_nil⟩) (fun a ha => by cases List.mem_singleton.mp ha; exact hp0) ?_
  refine .l List.mem_cons_self upd_same (Owns.ofRA (RA.same (fz_mono fun a o n e => ⟨fun z => ?_, ?_⟩) _ _ q1))
  · rcases List.mem_cons.mp z with z | z
    · rw [z, hp] at e; cases e
    · exact n z
  · exact sp a o e
end
end D

end

section
set_option Elab.async false
set_option linter.all false
set_option maxRecDepth 100000
set_option maxHeartbeats 2000000
namespace D
open PySem L2 PySem.Spec PyProof.Rows

/-! ### items, slices, len -/
/-- the items of a list (true), of a tuple (false) -/
def OT.kids : OT → Option (Bool × List OT)
  | .d (.list xs) => some (true, xs.map .d)
  | .d (.tuple xs) => some (false, xs.map .d)
  | .l ts => some (true, ts)
  | .t ts => some (false, ts)
  | .la _ ts => some (true, ts)
  | _ => none
def SqB (K : PySem.W.Frag) (H : Hp) (a : Addr) (vs : List V) : Bool → Prop
  | true => SqL K H a vs
  | false => SqT K H a vs
theorem own_kids {K : PySem.W.Frag} {W : List Addr} {H : Hp} {v : V} {t : OT} {F : List Addr} {s : Bool} {ts : List OT} (h : Own K W H v t F) (hk : t.kids = some (s, ts)) (nF : F.Nodup) :
    ∃ a vs G, v = .ref a ∧ SqB K H a vs s ∧ Owns K W H vs ts G ∧ (∀ x ∈ G, x ∈ F) ∧ G.Nodup := by
  cases h with
  | d r =>
    cases r with
    | lst hs ha =>
      cases hk
      exact ⟨_, _, [], rfl, fz_sub.seq hs, Owns.ofRA ha, (fun x hx => absurd hx List.not_mem_nil), List.nodup_nil⟩
    | tup hs ha =>
      cases hk
      exact ⟨_, _, [], rfl, same_t fz_sub hs, Owns.ofRA ha, (fun x hx => absurd hx List.not_mem_nil), List.nodup_nil⟩
    | _ => cases hk
  | ob _ _ _ _ _ => cases hk
  | l hp hl ho =>
    cases hk
    exact ⟨_, _, _, rfl, .inl (.inl hl), ho, fun x hx => List.mem_cons_of_mem _ hx, (List.nodup_cons.mp nF).2⟩
  | la hp hl ho =>
    cases hk
    exact ⟨_, _, _, rfl, .inl (.inl hl), ho, fun x hx => List.mem_cons_of_mem _ hx, (List.nodup_cons.mp nF).2⟩
  | t hs ho =>
    cases hk
    exact ⟨_, _, _, rfl, .inl (.inl (fz_sub _ _ hs)), ho, fun x hx => hx, nF⟩
theorem Owns.at {K : PySem.W.Frag} {W : List Addr} {H : Hp} {vs : List V} {ts : List OT} {F : List Addr} {i : Int} {t : OT} (h : Owns K W H vs ts F) (e : atI ts i = some t) : ∃ v G, atI vs i = some v ∧ Own K W H v t G ∧ (∀ a ∈ G, a ∈ F) ∧ (F.Nodup → G.Nodup) := by
  unfold atI at e
  have hl := h.length
  cases q : ixN ts.length i with
  | none => rw [q] at e; cases e
  | some j =>
    rw [q] at e
    obtain ⟨v, G, h1, h2⟩ := h.get (i := j) (t := t) e
    refine ⟨v, G, ?_, h2⟩
    unfold atI
    rw [hl, q]
    exact h1
theorem at_nat {α : Type} {xs : List α} {j : Nat} {v : α} (h : xs[j]? = some v) : atI xs (j : Int) = some v := atI_nat h
theorem at_lt {α : Type} {xs : List α} {i : Int} {v : α} (h0 : 0 ≤ i) (h : xs[i.toNat]? = some v) : atI xs i = some v := by
  have := atI_nat h
  rwa [Int.toNat_of_nonneg h0] at this
theorem at_map {α β : Type} {f : α → β} {xs : List α} {i : Int} {v : α} (h : atI xs i = some v) : atI (xs.map f) i = some (f v) := by
  unfold atI at h ⊢
  rw [List.length_map]
  cases q : ixN xs.length i with
  | none => rw [q] at h; cases h
  | some j =>
    rw [q] at h
    show (xs.map f)[j]? = some (f v)
    rw [List.getElem?_map, show xs[j]? = some v from h]
    rfl
section
variable {X : Cx} {E : List Sl} {e a b c : Expr} {es : List Expr} {x y z : PyData} {xs : List PyData} {pos : Pos} {i j : Int} {p q : Bool} {t u : OT} {ts : List OT} {s : Bool}
theorem db_ix (ha : DB X E a t) (hb : DE X E b (.int i)) (hk : t.kids = some (s, ts) := by rfl) (hx : atI ts i = some u := by rfl) (hs : PlainIx b := by exact fun _ _ => rfl) : DB X E (.Subscript a b pos) u := by
  obtain ⟨ta, a1, a2⟩ := ha
  obtain ⟨tb, b1, b2⟩ := hb
  cases s with
  | true =>
    refine ⟨_, pe_ix ix_list a1 b1 hs, fun M L H σ Q I k => a2 M L H σ _ I fun v H1 F s1 nF hF o1 => b2 M L H1 σ _ (I.same s1) fun w H2 s2 r2 => ?_⟩
    have o2 : Own X.K (L ++ M) H2 v t F := Own.mono (fz_same s2) _ _ _ (fun a ha => by
      obtain ⟨h1, vs, h2, _⟩ := Own.sub _ _ _ o1 a ha
      exact ⟨h1, eq_same s2 h2⟩) o1
    obtain ⟨p, vs, G, rfl, hq, ho, hG, nG⟩ := own_kids o2 hk nF
    obtain ⟨w', G', h1, h2, h3, h4⟩ := ho.at hx
    cases r2
    exact ⟨p, vs, i, w', rfl, rfl, hq, h1, k _ H2 G' (s1.trans s2) (h4 nG) (fun a ha => hF a (hG a (h3 a ha))) h2⟩
  | false =>
    refine ⟨_, pe_ix ix_tup a1 b1 hs, fun M L H σ Q I k => a2 M L H σ _ I fun v H1 F s1 nF hF o1 => b2 M L H1 σ _ (I.same s1) fun w H2 s2 r2 => ?_⟩
    have o2 : Own X.K (L ++ M) H2 v t F := Own.mono (fz_same s2) _ _ _ (fun a ha => by
      obtain ⟨h1, vs, h2, _⟩ := Own.sub _ _ _ o1 a ha
      exact ⟨h1, eq_same s2 h2⟩) o1
    obtain ⟨p, vs, G, rfl, hq, ho, hG, nG⟩ := own_kids o2 hk nF
    obtain ⟨w', G', h1, h2, h3, h4⟩ := ho.at hx
    cases r2
    exact ⟨p, vs, i, w', rfl, rfl, hq, h1, k _ H2 G' (s1.trans s2) (h4 nG) (fun a ha => hF a (hG a (h3 a ha))) h2⟩
/-- an item of a list, of a tuple -/
theorem de_ix (ha : DE X E a (.list xs)) (hb : DE X E b (.int i)) (hx : atI xs i = some y) (hs : PlainIx b := by exact fun _ _ => rfl) : DE X E (.Subscript a b pos) y := (db_ix (u := .d y) ha.toB hb rfl (at_map hx) hs).toE
theorem de_it (ha : DE X E a (.tuple xs)) (hb : DE X E b (.int i)) (hx : atI xs i = some y := by rfl) (hs : PlainIx b := by exact fun _ _ => rfl) : DE X E (.Subscript a b pos) y := (db_ix (u := .d y) ha.toB hb rfl (at_map hx) hs).toE
/-- len -/
theorem de_len {nm : Pos} (ha : DB X E a t) (hg : Gl X "len") (hm : X.mg "len" = none) (hk : t.kids = some (s, ts) := by rfl) (hs : starEach [a] X.env = (false, eval a X.env) :: starEach [] X.env := by rfl) : DE X E (.Call (.Name "len" nm) [a] [] pos) (.int (ts.length : Int)) := by
  obtain ⟨ta, a1, a2⟩ := ha
  refine ⟨_, pe_callB call_len_seq hg hm PySem.boot_len (pa_cons a1 pa_nil hs) (he := hs), fun M L H σ Q I k => a2 M L H σ _ I fun v H1 F s1 nF hF o1 => ?_⟩
  obtain ⟨p, vs, G, rfl, hq, ho, hG, nG⟩ := own_kids o1 hk nF
  refine ⟨p, vs, rfl, ?_, k _ H1 s1 (by rw [ho.length]; exact .int _)⟩
  cases s with
  | true => exact .inl hq
  | false => exact .inr hq
theorem len_d : ((xs.map OT.d).length : Int) = (xs.length : Int) := by rw [List.length_map]
theorem de_lenD {nm : Pos} (ha : DE X E a (.list xs)) (hg : Gl X "len") (hm : X.mg "len" = none) (hs : starEach [a] X.env = (false, eval a X.env) :: starEach [] X.env := by rfl) : DE X E (.Call (.Name "len" nm) [a] [] pos) (.int (xs.length : Int)) := (de_len ha.toB hg hm rfl hs).cast (by rw [len_d])
theorem de_lenT {nm : Pos} (ha : DE X E a (.tuple xs)) (hg : Gl X "len") (hm : X.mg "len" = none) (hs : starEach [a] X.env = (false, eval a X.env) :: starEach [] X.env := by rfl) : DE X E (.Call (.Name "len" nm) [a] [] pos) (.int (xs.length : Int)) := (de_len ha.toB hg hm rfl hs).cast (by rw [len_d])

/-! slices -/
def cutG {α : Type} (xs : List α) (lo hi : Option Int) : List α := (xs.drop (HT.sIx xs.length 0 lo)).take (HT.sIx xs.length xs.length hi - HT.sIx xs.length 0 lo)
theorem RA.drop {K : PySem.W.Frag} {H : Hp} : ∀ {ds : List PyData} {vs : List V} (n : Nat), RA K H vs ds → RA K H (vs.drop n) (ds.drop n)
  | _, _, 0, h => h
  | [], _, n + 1, h => by cases h; exact .nil
  | d :: ds, _, n + 1, h => by
    cases h with
    | cons h1 h2 => exact RA.drop n h2
theorem RA.take {K : PySem.W.Frag} {H : Hp} : ∀ {ds : List PyData} {vs : List V} (n : Nat), RA K H vs ds → RA K H (vs.take n) (ds.take n)
  | _, _, 0, h => .nil
  | [], _, n + 1, h => by cases h; exact .nil
  | d :: ds, _, n + 1, h => by
    cases h with
    | cons h1 h2 => exact .cons h1 (RA.take n h2)
theorem RA.cut {K : PySem.W.Frag} {H : Hp} {ds : List PyData} {vs : List V} {lo hi : Option Int} (h : RA K H vs ds) : RA K H (cutV vs lo hi) (cutG ds lo hi) := by
  unfold cutV cutG
  rw [h.length]
  exact (h.drop _).take _
def EvO (K : PySem.W.Frag) (to : TO) (E : List Sl) (o : Option Int) : Prop :=
  ∀ (M L : List Addr) (H : Hp) (σ : L2.St) (Q : Option Int → Hp → Prop), EnvR K M L H σ E → (∀ H', Same H H' → Q o H') → to σ H Q
structure DO (X : Cx) (E : List Sl) (e : Option Expr) (o : Option Int) : Prop where
  ex : ∃ to, PO X e to ∧ EvO X.K to E o
theorem do_non : DO X E none none := ⟨_, po_none, fun M L H σ Q I k => k H (Same.refl H)⟩
theorem do_som (h : DE X E e (.int i)) : DO X E (some e) (some i) := by
  obtain ⟨te, h1, h2⟩ := h
  exact ⟨_, po_some h1, fun M L H σ Q I k => h2 M L H σ _ I fun v H' s r => by
    cases r
    exact ⟨i, rfl, k H' s⟩⟩
/-- a new list is laid, its items data that stood -/
theorem own_new {K : PySem.W.Frag} {M L : List Addr} {H H1 : Hp} {σ : L2.St} {Q : VK} {ws : List V} {p : Addr} (I : EnvR K M L H σ E) (s1 : Same H H1) (q1 : RA K (fz (L ++ M) H1) ws xs) (hp : H1 p = none)
    (k : ∀ v H' F, Same H H' → F.Nodup → (∀ a ∈ F, H a = none) → Own K (F ++ (L ++ M)) H' v (.l (xs.map .d)) F → Q v H') : Q (.ref p) (upd H1 p (.lst ws)) := by
  have sp : Same H1 (upd H1 p (.lst ws)) := same_new hp
  have hp0 : H p = none := s1.free hp
  refine k _ _ [p] (s1.trans sp) (List.nodup_cons.mpr ⟨by simp, List.nodup_nil⟩) (fun a ha => by cases List.mem_singleton.mp ha; exact hp0) ?_
  refine .l List.mem_cons_self upd_same (Owns.ofRA (RA.same (fz_mono fun a o n e => ⟨fun z => ?_, ?_⟩) _ _ q1))
  · rcases List.mem_cons.mp z with z | z
    · rw [z, hp] at e; cases e
    · exact n z
  · exact sp a o e
theorem dn_cut {lo hi : Option Expr} {ol oh : Option Int} {p2 : Pos} (ha : DE X E a (.list xs)) (hl : DO X E lo ol) (hh : DO X E hi oh) : DN X E (.Subscript a (.Slice lo hi none p2) pos) (.l ((cutG xs ol oh).map .d)) := by
  obtain ⟨ta, a1, a2⟩ := ha
  obtain ⟨tl, l1, l2⟩ := hl
  obtain ⟨th, h1, h2⟩ := hh
  refine ⟨_, pe_slice sl_list a1 l1 h1, fun M L H σ Q I k => a2 M L H σ _ I fun v H1 s1 r1 => l2 M L H1 σ _ (I.same s1) fun H2 s2 => h2 M L H2 σ _ (I.same (s1.trans s2)) fun H3 s3 => ?_⟩
  cases R.same (fz_same (s2.trans s3)) _ _ r1 with
  | lst hs hr => exact ⟨_, _, rfl, fz_sub.seq hs, fun p hp => own_new I ((s1.trans s2).trans s3) hr.cut hp k⟩
/-- list(xs) -/
theorem dn_list {nm : Pos} (ha : DE X E a (.list xs)) (hg : Gl X "list") (hm : X.mg "list" = none) (hs : starEach [a] X.env = (false, eval a X.env) :: starEach [] X.env := by rfl) : DN X E (.Call (.Name "list" nm) [a] [] pos) (.l (xs.map .d)) := by
  obtain ⟨ta, a1, a2⟩ := ha
  refine ⟨_, pe_callTy call_list_of hg hm (by decide +kernel) (pa_cons a1 pa_nil hs) (he := hs), fun M L H σ Q I k => a2 M L H σ _ I fun v H1 s1 r1 => ?_⟩
  cases r1 with
  | lst hs hr => exact ⟨_, _, rfl, .inl (fz_sub.seq hs), fun p hp => own_new I s1 hr hp k⟩
/-- xs + ys, any lists -/
def rCatS (K : PySem.W.Frag) : R2 := fun x y H Q => ∃ l b xs zs, x = .ref l ∧ y = .ref b ∧ SqL K H l xs ∧ SqL K H b zs ∧ xs.length + zs.length ≤ sizeLine ∧ ∀ p, H p = none → Q (.ref p) (upd H p (.lst (xs ++ zs)))
theorem op_catS {X : Cx} : OpR X (binaryOp .Add) (rCatS X.K) := by
  intro pins s σ H x y v u Q I rx ry h
  obtain ⟨l, b, xs, zs, rfl, rfl, hH, hB, hz, q⟩ := h
  cases rx
  cases ry
  obtain ⟨its, r, pl, h1⟩ := I.list hH
  obtain ⟨its2, r2, pl2, h2⟩ := I.list hB
  obtain ⟨⟨cls, dd, data, sl⟩, n, ho, hc, hd, hdat⟩ := pl
  obtain ⟨⟨cls2, dd2, data2, sl2⟩, n2, ho2, hc2, hd2, hdat2⟩ := pl2
  simp only at hc hd hdat hc2 hd2 hdat2
  subst hc hd hdat hc2 hd2 hdat2
  have e : its.toArray ++ its2.toArray = (its ++ its2).toArray := by simp
  have l1 := r.length
  have l2 := r2.length
  refine concat_meets ⟨_, ho, rfl⟩ ⟨_, ho2, rfl⟩ noFill_list_add seq_list_add PySem.F.slot_list_add PySem.F.entry_list_add (PySem.F.args_list_add_2 _ _) (list_addW l b its.toArray its2.toArray n n2 none none sl sl2 (by simp; omega)) ⟨ho, ho2, ?_⟩
  rw [e]
  exact ⟨.ref _, _, I.lnew (t' := s.toks) (r.append r2) (by rw [List.length_append]; omega), rfl, q _ I.fresh⟩
theorem dn_cat {ys : List PyData} (ha : DE X E a (.list xs)) (hb : DE X E b (.list ys)) (hl : xs.length + ys.length ≤ sizeLine) : DN X E (.BinOp a .Add b pos) (.l ((xs ++ ys).map .d)) := by
  obtain ⟨ta, a1, a2⟩ := ha
  obtain ⟨tb, b1, b2⟩ := hb
  refine ⟨_, pe_op op_catS a1 b1, fun M L H σ Q I k => a2 M L H σ _ I fun v H1 s1 r1 => b2 M L H1 σ _ (I.same s1) fun w H2 s2 r2 => ?_⟩
  cases R.same (fz_same s2) _ _ r1 with
  | lst hs hr =>
    cases r2 with
    | lst hs2 hr2 => exact ⟨_, _, _, _, rfl, rfl, fz_sub.seq hs, fz_sub.seq hs2, by rw [hr.length, hr2.length]; exact hl, fun p hp => own_new I (s1.trans s2) (hr.append hr2) hp k⟩
end
end D

end

section
set_option Elab.async false
set_option linter.all false
set_option maxRecDepth 100000
set_option maxHeartbeats 2000000
namespace D
open PySem L2 PySem.Spec PyProof.Rows

/-! ### isinstance -/
def tyName : PyData → String
  | .none => "NoneType"
  | .bool _ => "bool"
  | .int _ => "int"
  | .str _ => "str"
  | .list _ => "list"
  | .tuple _ => "tuple"
  | .dict _ => "dict"
/-- the type of a value, exceptions too -/
def TyY (K : PySem.W.Frag) (H : Hp) (v : V) (t : Value) : Prop := TyX K H v t ∨ ∃ (a C : Addr) (d : Option Addr) (y : PyData), v = .ref a ∧ t = .ref C ∧ H a = some (ExZ C d a) ∧ ExcK K C ∧ FdR K H d y
theorem kit_ofY {X : Cx} {pins : List (Addr × Obj)} {σ : L2.St} {H : Hp} {s : Shared} {x : V} {u t : Value} (I : Inv X pins σ H s) (rx : RelV x u) (ty : TyY X.K H x t) : ∃ P : Heap → Prop, PySem.W.KitX X.K u t P ∧ P s.heap ∧ u ≠ .builtin "__main__.__loader__#opaque" := by
  rcases ty with ty | ⟨a, C, d, y, rfl, rfl, h, hk, hf⟩
  · exact kit_of I rx ty
  · cases (show u = Value.ref a from rx)
    obtain ⟨⟨oe, vs, e1, e2, e3⟩, _⟩ := (show ObjOk X.prog X.w H s.heap a (ExZ C d a) from I.hok a _ h)
    have hcl : (PySem.W.clsIn X.K C).isSome = true := by
      cases q : PySem.W.clsIn X.K C with
      | some cd => rfl
      | none =>
        have z := hk.e.hd
        unfold PySem.W.hasDictIn at z
        rw [q] at z
        cases z
    have one : ∀ od, PySem.W.InstAt s.heap a oe C od → ∃ P : Heap → Prop, PySem.W.KitX X.K (.ref a) (.ref C) P ∧ P s.heap ∧ (Value.ref a) ≠ .builtin "__main__.__loader__#opaque" := fun od J =>
      ⟨_, PySem.W.kitx_exc (od := od) (ox := oe) hcl hk.e.hg hk.e.hk hk.e.hs hk.e.ha hk.e.hn hk.e.ht hk.e.hm, J, fun z => nomatch z⟩
    have nc : PySem.W.notCls oe = true := by unfold PySem.W.notCls; rw [e3]
    have fld : ∀ {dx : Addr} {gs : List (Str × V)}, d = some dx → H dx = some (.xd gs) → ∃ P : Heap → Prop, PySem.W.KitX X.K (.ref a) (.ref C) P ∧ P s.heap ∧ (Value.ref a) ≠ .builtin "__main__.__loader__#opaque" := fun {dx gs} q hx => by
      obtain ⟨mA, hns, _⟩ := (show ObjOk X.prog X.w H s.heap dx (.xd gs) from I.hok dx _ hx)
      obtain ⟨od, ho, _⟩ := lookIn_ns hns
      exact one (some od) ⟨e1, e2.1, nc, by rw [e2.2, q]; exact ho⟩
    cases hf with
    | n => exact one none ⟨e1, e2.1, nc, by rw [e2.2]; trivial⟩
    | w hx _ => exact fld rfl hx
    | p hx => exact fld rfl hx
/-- isinstance(x, c), one class -/
def rIsY (K : PySem.W.Frag) : List V → Hp → VK → Prop := fun xs H Q => ∃ (x c : V) (t u : Value) (b : Bool), xs = [x, c] ∧ ClsV c u ∧ TyY K H x t ∧ PySem.W.kitOne K t u = some b ∧ Q (.bl b) H
def rIsTY (K : PySem.W.Frag) : List V → Hp → VK → Prop := fun xs H Q => ∃ (x : V) (tp : Addr) (cs : List V) (t : Value) (us : List Value) (b : Bool), xs = [x, .ref tp] ∧ H tp = some (.tup cs) ∧ Paired ClsV cs us ∧ TyY K H x t ∧ PySem.W.kitAny K t us = some b ∧ Q (.bl b) H
theorem call_isY {X : Cx} : CallR X (.builtin "isinstance") (rIsY X.K) := by
  intro pins s σ H xs us Q I r h
  obtain ⟨x, c, t, u, b, rfl, k, ty, e, q⟩ := h
  obtain ⟨u1, u2, rfl, r1, r2⟩ := vals2 r
  cases k.eq r2
  obtain ⟨P, Z, p, hx⟩ := kit_ofY I r1 ty
  exact PySem.W.kia_one Z I.kIn p e hx fun tk => ⟨.bl b, H, I.tok tk, rfl, q⟩
theorem call_isTY {X : Cx} : CallR X (.builtin "isinstance") (rIsTY X.K) := by
  intro pins s σ H xs us Q I r h
  obtain ⟨x, tp, cs, t, ws, b, rfl, hT, k, ty, e, q⟩ := h
  obtain ⟨u1, u2, rfl, r1, r2⟩ := vals2 r
  cases (show u2 = Value.ref tp from r2)
  obtain ⟨P, Z, p, hx⟩ := kit_ofY I r1 ty
  obtain ⟨_, its, rv, o, h1, h2, n, h3⟩ := (show ObjOk X.prog X.w H s.heap tp (.tup cs) from I.hok tp _ hT)
  have e3 := ClsV.all k rv
  subst e3
  obtain ⟨oc, od, dt, sl⟩ := o
  simp only at h2 h3
  subst h2 h3
  exact PySem.W.kia_tup Z I.kIn p h1 e hx fun tk => ⟨.bl b, H, I.tok tk, rfl, q⟩
theorem R.ty {K : PySem.W.Frag} {H : Hp} {v : V} {x : PyData} (r : R K H v x) : TyX K H v (.type (tyName x)) ∨ (∃ C, TyX K H v (.ref C) ∧ InsC K C ∧ tyName x = "dict") ∨ ∃ C y, TyY K H v (.ref C) ∧ ExcK K C ∧ x = .dict [(.int (C : Int), y)] := by
  cases r with
  | non => exact .inl (.base .non)
  | bl b => exact .inl (.base (.bl b))
  | int i => exact .inl (.base (.int i))
  | str s => exact .inl (.base (.str s))
  | lst hs ha =>
    rcases hs with (h | ⟨o, h⟩) | ⟨o, its, n, h, hc, _⟩
    · exact .inl (.base (.lst h))
    · exact .inl (.base (.frz h))
    · exact .inl (.kList h hc)
  | tup hs ha =>
    rcases hs with (h | ⟨o, h⟩) | ⟨o, its, n, h, hc, _⟩
    · exact .inl (.base (.tup h))
    · exact .inl (.fTuple h)
    · exact .inl (.kTuple h hc)
  | dict0 h => exact .inl (.base (.dK h))
  | ins h hc => exact .inr (.inl ⟨_, .base (.ins h hc.cls hc.ha hc.hn hc.ht hc.hm), hc, rfl⟩)
  | exc h hc hf => exact .inr (.inr ⟨_, _, .inr ⟨_, _, _, _, rfl, rfl, h, hc, hf⟩, hc, rfl⟩)
  | obj h hc _ => exact .inr (.inl ⟨_, .base (.ins h hc.cls hc.ha hc.hn hc.ht hc.hm), hc, rfl⟩)
def five (T : String) : Prop := T = "int" ∨ T = "bool" ∨ T = "tuple" ∨ T = "list" ∨ T = "str"
theorem R.kit {K : PySem.W.Frag} {H : Hp} {v : V} {x : PyData} {T : String} {p : Bool} (r : R K H v x) (hT : five T) (k : kitB (tyName x) T = some p) : ∃ t, TyY K H v t ∧ PySem.W.kitOne K t (.type T) = some p := by
  have five5 : ∀ {C : Addr}, tyName x = "dict" → (PySem.W.kitOne K (.ref C) (.type "int") = some false ∧ PySem.W.kitOne K (.ref C) (.type "bool") = some false ∧ PySem.W.kitOne K (.ref C) (.type "tuple") = some false ∧ PySem.W.kitOne K (.ref C) (.type "list") = some false ∧ PySem.W.kitOne K (.ref C) (.type "str") = some false) → PySem.W.kitOne K (.ref C) (.type T) = some p := fun {C} hd hk => by
    rw [hd] at k
    rcases hT with rfl | rfl | rfl | rfl | rfl
    · rw [(by decide +kernel : kitB "dict" "int" = some false)] at k
      cases k; exact hk.1
    · rw [(by decide +kernel : kitB "dict" "bool" = some false)] at k
      cases k; exact hk.2.1
    · rw [(by decide +kernel : kitB "dict" "tuple" = some false)] at k
      cases k; exact hk.2.2.1
    · rw [(by decide +kernel : kitB "dict" "list" = some false)] at k
      cases k; exact hk.2.2.2.1
    · rw [(by decide +kernel : kitB "dict" "str" = some false)] at k
      cases k; exact hk.2.2.2.2
  rcases r.ty with h | ⟨C, h, hc, hd0⟩ | ⟨C, y, h, hc, rfl⟩
  · exact ⟨_, .inl h, kit_ty k⟩
  · exact ⟨_, .inl h, five5 hd0 ⟨hc.ki, hc.kb, hc.kt, hc.kl, hc.ks⟩⟩
  · exact ⟨_, h, five5 rfl ⟨hc.ki, hc.kb, hc.kt, hc.kl, hc.ks⟩⟩
def isInt : PyData → Bool
  | .int _ => true
  | .bool _ => true
  | _ => false
def isBool : PyData → Bool
  | .bool _ => true
  | _ => false
def isTuple : PyData → Bool
  | .tuple _ => true
  | _ => false
def isList : PyData → Bool
  | .list _ => true
  | _ => false
def isStr : PyData → Bool
  | .str _ => true
  | _ => false
theorem kit_int (x : PyData) : kitB (tyName x) "int" = some (isInt x) := by
  cases x
  · exact (by decide +kernel : kitB "NoneType" "int" = some false)
  · exact (by decide +kernel : kitB "bool" "int" = some true)
  · exact (by decide +kernel : kitB "int" "int" = some true)
  · exact (by decide +kernel : kitB "str" "int" = some false)
  · exact (by decide +kernel : kitB "list" "int" = some false)
  · exact (by decide +kernel : kitB "tuple" "int" = some false)
  · exact (by decide +kernel : kitB "dict" "int" = some false)
theorem kit_bool (x : PyData) : kitB (tyName x) "bool" = some (isBool x) := by
  cases x
  · exact (by decide +kernel : kitB "NoneType" "bool" = some false)
  · exact (by decide +kernel : kitB "bool" "bool" = some true)
  · exact (by decide +kernel : kitB "int" "bool" = some false)
  · exact (by decide +kernel : kitB "str" "bool" = some false)
  · exact (by decide +kernel : kitB "list" "bool" = some false)
  · exact (by decide +kernel : kitB "tuple" "bool" = some false)
  · exact (by decide +kernel : kitB "dict" "bool" = some false)
theorem kit_tuple (x : PyData) : kitB (tyName x) "tuple" = some (isTuple x) := by
  cases x
  · exact (by decide +kernel : kitB "NoneType" "tuple" = some false)
  · exact (by decide +kernel : kitB "bool" "tuple" = some false)
  · exact (by decide +kernel : kitB "int" "tuple" = some false)
  · exact (by decide +kernel : kitB "str" "tuple" = some false)
  · exact (by decide +kernel : kitB "list" "tuple" = some false)
  · exact (by decide +kernel : kitB "tuple" "tuple" = some true)
  · exact (by decide +kernel : kitB "dict" "tuple" = some false)
theorem kit_list (x : PyData) : kitB (tyName x) "list" = some (isList x) := by
  cases x
  · exact (by decide +kernel : kitB "NoneType" "list" = some false)
  · exact (by decide +kernel : kitB "bool" "list" = some false)
  · exact (by decide +kernel : kitB "int" "list" = some false)
  · exact (by decide +kernel : kitB "str" "list" = some false)
  · exact (by decide +kernel : kitB "list" "list" = some true)
  · exact (by decide +kernel : kitB "tuple" "list" = some false)
  · exact (by decide +kernel : kitB "dict" "list" = some false)
theorem kit_str (x : PyData) : kitB (tyName x) "str" = some (isStr x) := by
  cases x
  · exact (by decide +kernel : kitB "NoneType" "str" = some false)
  · exact (by decide +kernel : kitB "bool" "str" = some false)
  · exact (by decide +kernel : kitB "int" "str" = some false)
  · exact (by decide +kernel : kitB "str" "str" = some true)
  · exact (by decide +kernel : kitB "list" "str" = some false)
  · exact (by decide +kernel : kitB "tuple" "str" = some false)
  · exact (by decide +kernel : kitB "dict" "str" = some false)
section
variable {X : Cx} {E : List Sl} {e a b c : Expr} {es : List Expr} {x y z : PyData} {xs : List PyData} {pos : Pos} {i j : Int} {p q : Bool} {t u : OT} {ts : List OT} {s : Bool}
/-- isinstance(x, T) -/
theorem de_isi {T : String} {nT : Str} {nm pT : Pos} (k : kitB (tyName x) T = some p) (ha : DE X E a x) (hg : Gl X "isinstance") (hm : X.mg "isinstance" = none) (hgT : Gl X nT) (hmT : X.mg nT = none) (hT : bootBuiltins nT = some (.type T) := by decide +kernel)
    (hf : five T := by first | exact .inl rfl | exact .inr (.inl rfl) | exact .inr (.inr (.inl rfl)) | exact .inr (.inr (.inr (.inl rfl))) | exact .inr (.inr (.inr (.inr rfl)))) (hnT : nT ≠ "__name__" := by decide) (hdT : (nT == ("__debug__" : Str)) = false := by decide)
    (hs1 : starEach [a, .Name nT pT] X.env = (false, eval a X.env) :: starEach [.Name nT pT] X.env := by rfl) (hs2 : starEach [.Name nT pT] X.env = (false, eval (.Name nT pT) X.env) :: starEach [] X.env := by rfl)
    (hpl : (backTo pos (starEach [.Name nT pT] X.env)).any (·.1) = false := by rfl) : DE X E (.Call (.Name "isinstance" nm) [a, .Name nT pT] [] pos) (.bool p) := by
  obtain ⟨ta, a1, a2⟩ := ha
  have hc : PE X (.Name nT pT) (tC (.ty T)) := pe_bltn hgT hmT hT rfl hnT hdT
  refine ⟨_, pe_callB call_isY hg hm (by decide +kernel) (pa_cons a1 (pa_cons hc pa_nil hs2) hs1) (he := hs1) (hpl := hpl), fun M L H σ Q I k' => a2 M L H σ _ I fun v H1 s1 r1 => ?_⟩
  obtain ⟨t, k1, k2⟩ := (R.same fz_sub _ _ r1).kit hf k
  exact ⟨v, .ty T, t, .type T, p, rfl, .ty T, k1, k2, k' _ H1 s1 (.bl p)⟩

/-! ### built-ins on numbers -/
theorem de_abs {nm : Pos} (ha : DE X E a (.int i)) (hg : Gl X "abs") (hm : X.mg "abs" = none) (hs : starEach [a] X.env = (false, eval a X.env) :: starEach [] X.env := by rfl) : DE X E (.Call (.Name "abs" nm) [a] [] pos) (.int (i.natAbs : Int)) := by
  obtain ⟨ta, a1, a2⟩ := ha
  refine ⟨_, pe_callB call_abs hg hm (by decide +kernel) (pa_cons a1 pa_nil hs) (he := hs), fun M L H σ Q I k => a2 M L H σ _ I fun v H1 s1 r1 => ?_⟩
  cases r1
  refine ⟨i, rfl, ?_⟩
  have e : (if i < 0 then -i else i) = (i.natAbs : Int) := by split <;> omega
  rw [e]
  exact k _ H1 s1 (.int _)
theorem de_intB {nm : Pos} (ha : DE X E a (.bool p)) (hg : Gl X "int") (hm : X.mg "int" = none) (hs : starEach [a] X.env = (false, eval a X.env) :: starEach [] X.env := by rfl) : DE X E (.Call (.Name "int" nm) [a] [] pos) (.int (if p then 1 else 0)) := by
  obtain ⟨ta, a1, a2⟩ := ha
  refine ⟨_, pe_callTy call_int1 hg hm (by decide +kernel) (pa_cons a1 pa_nil hs) (he := hs), fun M L H σ Q I k => a2 M L H σ _ I fun v H1 s1 r1 => ?_⟩
  cases r1
  exact .inr ⟨p, rfl, k _ H1 s1 (.int _)⟩
theorem de_strI {nm : Pos} (ha : DE X E a (.int i)) (h : i.natAbs.log2 < 1920) (hg : Gl X "str") (hm : X.mg "str" = none) (hs : starEach [a] X.env = (false, eval a X.env) :: starEach [] X.env := by rfl) : DE X E (.Call (.Name "str" nm) [a] [] pos) (.str (toString i)) := by
  obtain ⟨ta, a1, a2⟩ := ha
  refine ⟨_, pe_callTy call_str_int hg hm (by decide +kernel) (pa_cons a1 pa_nil hs) (he := hs), fun M L H σ Q I k => a2 M L H σ _ I fun v H1 s1 r1 => ?_⟩
  cases r1
  exact ⟨i, rfl, h, k _ H1 s1 (.str _)⟩
end

/-! ### what a def promises, by data alone -/
inductive Res where
  | ok (t : OT) | ex (C : Addr) (fs : Option (List (Str × OT)))
abbrev Res.v (x : PyData) : Res := .ok (.d x)
/-- fields of an exception -/
inductive FldR (K : PySem.W.Frag) (W : List Addr) (H : Hp) : List (Str × V) → List (Str × OT) → List Addr → Prop
  | nil : FldR K W H [] [] []
  | cons {f : Str} {v : V} {t : OT} {F : List Addr} {gs : List (Str × V)} {fs : List (Str × OT)} {G : List Addr} : Own K W H v t F → FldR K W H gs fs G → FldR K W H ((f, v) :: gs) ((f, t) :: fs) (F ++ G)
def PostR (K : PySem.W.Frag) (M : List Addr) (H : Hp) (Q : VK) (Ex : XK) : Res → Prop
  | .ok t => ∀ v H' F, Same H H' → F.Nodup → (∀ a ∈ F, H a = none) → Own K (F ++ M) H' v t F → Q v H'
  | .ex C none => ∀ H', Same H H' → Ex (.ref C) none H'
  | .ex C (some fs) => ∀ d gs H' F, Same H H' → H d = none → d ∉ F → H' d = some (.xd gs) → F.Nodup → (∀ a ∈ F, H a = none) → FldR K (F ++ M) H' gs fs F → Ex (.ref C) (some d) H'
def spD (K : PySem.W.Frag) (n : Nat) (Rf : List PyData → Res → Prop) : Sp := fun vs H Q Ex =>
  ∃ (M : List Addr) (xs : List PyData) (r : Res), xs.length = n ∧ (∀ a ∈ M, H a ≠ none) ∧ RA K (fz M H) vs xs ∧ Rf xs r ∧ PostR K M H Q Ex r
structure FnD (X : Cx) (f : Str) (n : Nat) (Rf : List PyData → Res → Prop) : Prop where
  ex : ∃ (g : Addr) (fd : FuncData) (ps : List Str) (k : Nat), FnOk X.prog X.w X.K X.mg X.base (L2.CX X.prog X.w) k g fd ps (spD X.K n Rf) ∧ Room k X.A ∧ X.mg f = some (.ref g) ∧ PySem.W.keepIn X.K (.ref g) = true ∧ Binds X.K fd ps []
section
variable {X : Cx} {E : List Sl} {e a b c : Expr} {es : List Expr} {x y z : PyData} {xs : List PyData} {pos : Pos} {t : OT} {f : Str} {n : Nat} {Rf : List PyData → Res → Prop}
theorem dn_call {nm : Pos} (F : FnD X f n Rf) (hg : Gl X f) (ha : DA X E (e :: es) xs) (h : Rf xs (.ok t)) (hn : xs.length = n := by rfl) (hdb : (f == ("__debug__" : Str)) = false := by decide) (he : starEach (e :: es) X.env = (false, eval e X.env) :: starEach es X.env := by rfl) (hpl : (backTo pos (starEach es X.env)).any (·.1) = false := by rfl) :
    DN X E (.Call (.Name f nm) (e :: es) [] pos) t := by
  obtain ⟨g, fd, ps, k, ok, hr, hm, hk, hb⟩ := F.ex
  obtain ⟨ta, a1, a2⟩ := ha
  refine ⟨_, pe_call ok hr hg hm hk hb .nil passL a1 hdb he hpl, fun M L H σ Q I kk => a2 M L H σ _ I fun vs H1 s1 r1 => ?_⟩
  refine ⟨L ++ M, xs, .ok t, hn, (I.same s1).dom, by rw [List.append_nil]; exact r1, h, fun v H' F s2 nF hF o => kk v H' F (s1.trans s2) nF (fun a ha => s1.free (hF a ha)) o⟩
theorem de_call {nm : Pos} (F : FnD X f n Rf) (hg : Gl X f) (ha : DA X E (e :: es) xs) (h : Rf xs (.ok (.d y))) (hn : xs.length = n := by rfl) (hdb : (f == ("__debug__" : Str)) = false := by decide) (he : starEach (e :: es) X.env = (false, eval e X.env) :: starEach es X.env := by rfl) (hpl : (backTo pos (starEach es X.env)).any (·.1) = false := by rfl) :
    DE X E (.Call (.Name f nm) (e :: es) [] pos) y := (dn_call F hg ha h hn hdb he hpl).toE
end

/-! ### statements -/
inductive Out where
  | nx (E : List Sl) | bk (E : List Sl) | ct (E : List Sl) | rt (t : OT) | ex (C : Addr) (fs : Option (List (Str × OT))) (E : List Sl) | rte (x : PyData) (E : List Sl) | rto (u : OT) (E : List Sl)
structure Step (L : List Addr) (H : Hp) (L' : List Addr) (H' : Hp) : Prop where
  keep : ∀ a o, a ∉ L → H a = some o → H' a = some o
  new : ∀ a ∈ L', a ∈ L ∨ H a = none
  there : ∀ a, H a ≠ none → H' a ≠ none
theorem Step.refl (L : List Addr) (H : Hp) : Step L H L H := ⟨fun _ _ _ h => h, fun _ h => .inl h, fun _ h => h⟩
theorem Step.trans {L L' L'' : List Addr} {H H' H'' : Hp} (a : Step L H L' H') (b : Step L' H' L'' H'') : Step L H L'' H'' := by
  refine ⟨fun c o n h => b.keep c o (fun z => ?_) (a.keep c o n h), fun c hc => ?_, fun c h => b.there c (a.there c h)⟩
  · rcases a.new c z with q | q
    · exact n q
    · rw [q] at h; cases h
  · rcases b.new c hc with q | q
    · exact a.new c q
    · by_cases n : c ∈ L
      · exact .inl n
      · refine .inr ?_
        cases g : H c with
        | none => rfl
        | some o => rw [a.keep c o n g] at q; cases q
theorem Step.same {L : List Addr} {H H' : Hp} (e : Same H H') : Step L H L H' := ⟨fun a o _ h => e a o h, fun _ h => .inl h, fun _ h => not_none_same e h⟩
theorem Step.more {L F : List Addr} {H H' : Hp} (e : Same H H') (hF : ∀ a ∈ F, H a = none) : Step L H (F ++ L) H' := ⟨fun a o _ h => e a o h, fun a ha => (List.mem_append.mp ha).elim (fun z => .inr (hF a z)) .inl, fun _ h => not_none_same e h⟩
theorem Step.fz {L L' M : List Addr} {H H' : Hp} (s : Step L H L' H') : Same (fz (L ++ M) H) (fz (L' ++ M) H') := fz_mono fun a o n e => by
  have n1 : a ∉ L := fun z => n (List.mem_append_left _ z)
  have n2 : a ∉ M := fun z => n (List.mem_append_right _ z)
  refine ⟨fun z => ?_, s.keep a o n1 e⟩
  rcases List.mem_append.mp z with z | z
  · rcases s.new a z with q | q
    · exact n1 q
    · rw [q] at e; cases e
  · exact n2 z
structure PostOk (K : PySem.W.Frag) (M L : List Addr) (H : Hp) (P : Out → Prop) (D : Ends) (W : WX) : Prop where
  nx : ∀ E' L' H' σ', P (.nx E') → Step L H L' H' → EnvR K M L' H' σ' E' → D.nx σ' H'
  bk : ∀ E' L' H' σ', P (.bk E') → Step L H L' H' → EnvR K M L' H' σ' E' → D.bk σ' H'
  ct : ∀ E' L' H' σ', P (.ct E') → Step L H L' H' → EnvR K M L' H' σ' E' → D.ct σ' H'
  rt : ∀ t v L' H' F, P (.rt t) → Step L H L' H' → (∀ a ∈ L' ++ M, H' a ≠ none) → (∀ a ∈ F, a ∈ L') → F.Nodup → Own K (L' ++ M) H' v t F → D.rt v H'
  ex : ∀ C E' L' H' σ', P (.ex C none E') → Step L H L' H' → EnvR K M L' H' σ' E' → W (.ref C) none σ' H'
  exd : ∀ C fs E' L' H' σ' d gs F, P (.ex C (some fs) E') → Step L H L' H' → EnvR K M L' H' σ' E' → H d = none → d ∉ L' → H' d = some (.xd gs) → F.Nodup → (∀ a ∈ F, H a = none ∧ a ∉ L' ∧ d ≠ a) → FldR K (F ++ (L' ++ M)) H' gs fs F → W (.ref C) (some d) σ' H'
  rte : ∀ x v E' L' H' σ', P (.rte x E') → Step L H L' H' → EnvR K M L' H' σ' E' → R K (fz (L' ++ M) H') v x → D.rt v H'
  rto : ∀ u v E' L' H' σ', P (.rto u E') → Step L H L' H' → EnvR K M L' H' (some v :: σ') (.o u :: E') → D.rt v H'
theorem PostOk.step {K : PySem.W.Frag} {M L L1 : List Addr} {H H1 : Hp} {P : Out → Prop} {D : Ends} {W : WX} (h : PostOk K M L H P D W) (s : Step L H L1 H1) : PostOk K M L1 H1 P D W := by
  have fr : ∀ a, H1 a = none → H a = none := fun a e => by
    cases g : H a with
    | none => rfl
    | some o => exact absurd e (s.there a (by rw [g]; exact fun z => by cases z))
  refine ⟨fun E' L' H' σ' p t I => h.nx E' L' H' σ' p (s.trans t) I, fun E' L' H' σ' p t I => h.bk E' L' H' σ' p (s.trans t) I, fun E' L' H' σ' p t I => h.ct E' L' H' σ' p (s.trans t) I,
    fun t v L' H' F p q dm hF nF o => h.rt t v L' H' F p (s.trans q) dm hF nF o, fun C E' L' H' σ' p t I => h.ex C E' L' H' σ' p (s.trans t) I, ?_, fun x v E' L' H' σ' p t I r => h.rte x v E' L' H' σ' p (s.trans t) I r, fun u v E' L' H' σ' p t I => h.rto u v E' L' H' σ' p (s.trans t) I⟩
  intro C fs E' L' H' σ' d gs F p t I hd hdL hdx nF hF r
  exact h.exd C fs E' L' H' σ' d gs F p (s.trans t) I (fr d hd) hdL hdx nF (fun a ha => ⟨fr a (hF a ha).1, (hF a ha).2⟩) r
end D

end

section
set_option Elab.async false
set_option linter.all false
set_option maxRecDepth 100000
set_option maxHeartbeats 2000000
namespace D
open PySem L2 PySem.Spec PyProof.Rows

def tAll (X : Cx) (sts : List Stmt) : TS := fun D σ H => ∃ t, PSs X sts t ∧ t D σ H
theorem pss_all {X : Cx} {sts : List Stmt} : PSs X sts (tAll X sts) := ⟨fun pins s σ H D I ⟨t, h, q⟩ => h.run pins s σ H D I q⟩
structure DS (X : Cx) (W : WX) (st : Stmt) (E : List Sl) (P : Out → Prop) : Prop where
  run : ∀ (M L : List Addr) (H : Hp) (σ : L2.St) (D : Ends), EnvR X.K M L H σ E → PostOk X.K M L H P D W → ∃ t, PS X st t ∧ t D σ H
structure DSs (X : Cx) (W : WX) (sts : List Stmt) (E : List Sl) (P : Out → Prop) : Prop where
  run : ∀ (M L : List Addr) (H : Hp) (σ : L2.St) (D : Ends), EnvR X.K M L H σ E → PostOk X.K M L H P D W → ∃ t, PSs X sts t ∧ t D σ H
/-- the wish for what goes on, the rest as it was -/
def th (Q : List Sl → Prop) (P : Out → Prop) : Out → Prop
  | .nx E => Q E
  | o => P o
/-- a loop's body: what a turn is to reach, what stands behind the loop -/
def lp (I N : List Sl → Prop) (P : Out → Prop) : Out → Prop
  | .nx E => I E
  | .ct E => I E
  | .bk E => N E
  | o => P o
theorem PostOk.imp {K : PySem.W.Frag} {M L : List Addr} {H : Hp} {P P' : Out → Prop} {D : Ends} {W : WX} (h : PostOk K M L H P D W) (q : ∀ o, P' o → P o) : PostOk K M L H P' D W :=
  ⟨fun E' L' H' σ' p => h.nx E' L' H' σ' (q _ p), fun E' L' H' σ' p => h.bk E' L' H' σ' (q _ p), fun E' L' H' σ' p => h.ct E' L' H' σ' (q _ p), fun t v L' H' F p => h.rt t v L' H' F (q _ p), fun C E' L' H' σ' p => h.ex C E' L' H' σ' (q _ p),
    fun C fs E' L' H' σ' d gs F p => h.exd C fs E' L' H' σ' d gs F (q _ p), fun x v E' L' H' σ' p => h.rte x v E' L' H' σ' (q _ p), fun u v E' L' H' σ' p => h.rto u v E' L' H' σ' (q _ p)⟩
section
variable {X : Cx} {W : WX} {st : Stmt} {sts rest bod els : List Stmt} {E E' : List Sl} {P P' : Out → Prop} {Q : List Sl → Prop} {e a b c : Expr} {x y z : PyData} {xs : List PyData} {pos : Pos} {t : OT} {p : Bool}
theorem DSs.imp (h : DSs X W sts E P) (q : ∀ o, P o → P' o) : DSs X W sts E P' := ⟨fun M L H σ D I k => h.run M L H σ D I (k.imp q)⟩
theorem DS.imp (h : DS X W st E P) (q : ∀ o, P o → P' o) : DS X W st E P' := ⟨fun M L H σ D I k => h.run M L H σ D I (k.imp q)⟩
theorem ds_nil (h : P (.nx E)) : DSs X W [] E P := ⟨fun M L H σ D I k => ⟨_, pss_nil, k.nx E L H σ h (Step.refl L H) I⟩⟩
theorem ds_seq (h1 : DS X W st E (th Q P)) (h2 : ∀ E', Q E' → DSs X W rest E' P) : DSs X W (st :: rest) E P := by
  refine ⟨fun M L H σ D I k => ?_⟩
  have kk : PostOk X.K M L H (th Q P) { D with nx := tAll X rest D } W := ⟨fun E' L' H' σ' q s J => (h2 E' q).run M L' H' σ' D J (k.step s), k.bk, k.ct, k.rt, k.ex, k.exd, k.rte, k.rto⟩
  obtain ⟨t, a1, a2⟩ := h1.run M L H σ { D with nx := tAll X rest D } I kk
  exact ⟨_, pss_cons a1 pss_all, a2⟩
/-- a statement behind which the names are E' -/
theorem ds_then (h1 : DS X W st E (th (· = E') P)) (h2 : DSs X W rest E' P) : DSs X W (st :: rest) E P := ds_seq h1 fun _ q => q ▸ h2
/-- the last statement -/
theorem ds_last (h1 : DS X W st E P) : DSs X W [st] E P := by
  refine ⟨fun M L H σ D I k => ?_⟩
  obtain ⟨t, a1, a2⟩ := h1.run M L H σ D I k
  exact ⟨_, pss_one a1, a2⟩
theorem ds_if (hc : DT X E c p) (ha : p = true → DSs X W bod E P) (hb : p = false → DSs X W els E P) : DS X W (.If c bod els pos) E P := by
  obtain ⟨tc, c1, c2⟩ := hc
  refine ⟨fun M L H σ D I k => ⟨_, ps_if c1 pss_all pss_all, c2 M L H σ _ I fun H1 s1 => ?_⟩⟩
  cases p with
  | true => exact iteT ((ha rfl).run M L H1 σ D (I.same s1) (k.step (Step.same s1)))
  | false => exact iteF ((hb rfl).run M L H1 σ D (I.same s1) (k.step (Step.same s1)))
/-- if c: .. that doesn't go on; rest -/
theorem ds_ifr (hc : DT X E c p) (ha : p = true → DSs X W bod E (th (fun _ => False) P)) (hr : p = false → DSs X W rest E P) : DSs X W (.If c bod [] pos :: rest) E P :=
  ds_seq (Q := fun E' => p = false ∧ E' = E) (ds_if hc (fun q => (ha q).imp fun o h => by cases o <;> first | exact h.elim | exact h) fun q => ds_nil ⟨q, rfl⟩) fun E' ⟨q, e⟩ => e ▸ hr q
/-- return e -/
theorem ds_ret (he : DB X E e t) (h : P (.rt t)) : DSs X W (.Return (some e) pos :: rest) E P := by
  obtain ⟨te, e1, e2⟩ := he
  exact ⟨fun M L H σ D I k => ⟨_, pss_cons (ps_ret e1) pss_all, e2 M L H σ _ I fun v H1 F s1 nF hF o => k.rt t v L H1 F h (Step.same s1) (I.same s1).dom hF nF o⟩⟩
theorem ds_retN (he : DN X E e t) (h : P (.rt t)) : DSs X W (.Return (some e) pos :: rest) E P := by
  obtain ⟨te, e1, e2⟩ := he
  refine ⟨fun M L H σ D I k => ⟨_, pss_cons (ps_ret e1) pss_all, e2 M L H σ _ I fun v H1 F s1 nF hF o => k.rt t v (F ++ L) H1 F h (Step.more s1 hF) (fun a ha => ?_) (fun a ha => List.mem_append_left _ ha) nF (by rw [List.append_assoc]; exact o)⟩⟩
  rw [List.append_assoc] at ha
  rcases List.mem_append.mp ha with z | z
  · obtain ⟨_, vs, q, _⟩ := Own.sub _ _ _ o a z
    rw [q]
    exact fun z => by cases z
  · exact (I.same s1).dom a z
theorem ds_retD (he : DE X E e x) (h : P (.rt (.d x))) : DSs X W (.Return (some e) pos :: rest) E P := ds_ret he.toB h
/-! names -/
structure LocN (X : Cx) (i : Nat) (x : Str) : Prop where
  nd : X.N.Nodup
  ix : X.N[i]? = some x
  loc : Loc X.env.scope x
  fn : X.fn x = true ∨ X.env.scope.names.lookup x = some .local
theorem ln (i : Nat) {X : Cx} {x : Str} (nd : X.N.Nodup) (ix : X.N[i]? = some x := by rfl) (loc : Loc X.env.scope x := by first | exact Or.inl rfl | exact Or.inr rfl) (fn : X.fn x = true ∨ X.env.scope.names.lookup x = some .local := by first | exact Or.inl rfl | exact Or.inr rfl) : LocN X i x := ⟨nd, ix, loc, fn⟩
/-- x = e, e new -/
theorem ds_setN {i : Nat} {n : Str} {p2 : Pos} (N : LocN X i n) (he : DN X E e t) (hE : E.set i (.o t) = E' := by rfl) (hi : Nat.ble (i + 1) E.length = true := by rfl) (hs : swapsWith e (some (.Name n p2)) pos.line X.env = pure false := by rfl) :
    DS X W (.Assign [.Name n p2] e pos) E (th (· = E') P) := by
  obtain ⟨te, e1, e2⟩ := he
  refine ⟨fun M L H σ D I k => ⟨_, ps_set N.nd N.ix N.loc e1 hs N.fn, e2 M L H σ _ I fun v H1 F s1 nF hF o => ?_⟩⟩
  exact k.nx E' (F ++ L) H1 _ rfl (Step.more s1 hF) (hE ▸ I.setN (Nat.le_of_ble_eq_true hi) s1 hF nF o)
theorem ds_set {i : Nat} {n : Str} {p2 : Pos} (N : LocN X i n) (he : DE X E e x) (hE : E.set i (.o (.d x)) = E' := by rfl) (hi : Nat.ble (i + 1) E.length = true := by rfl) (hs : swapsWith e (some (.Name n p2)) pos.line X.env = pure false := by rfl) :
    DS X W (.Assign [.Name n p2] e pos) E (th (· = E') P) := ds_setN N he.toN hE hi hs
/-- x, y = a, b -/
theorem ds_par {i j : Nat} {n m : Str} {px py pt : Pos} {kt k2 pt2} (hc : X.calm = true) (N : LocN X i n) (M2 : LocN X j m) (hij : i ≠ j) (ha : DE X E a x) (hb : DE X E b y) (hl1 : X.env.scope.names.lookup n = some .local) (hl2 : X.env.scope.names.lookup m = some .local)
    (hw : swappedStores [.Tuple [.Name n px, .Name m py] kt pt] (.Tuple [a, b] k2 pt2) X.env = pure (some [n, m]))
    (hE : (E.set i (.o (.d x))).set j (.o (.d y)) = E' := by rfl) (hi : Nat.ble (i + 1) E.length = true := by rfl) (hj : Nat.ble (j + 1) E.length = true := by rfl)
    (hs : swapsWithSole [.Tuple [.Name n px, .Name m py] kt pt] (.Tuple [a, b] k2 pt2) pos.line X.env = pure false := by rfl)
    (hs1 : starEach [a, b] X.env = (false, eval a X.env) :: starEach [b] X.env := by rfl) (hs2 : starEach [b] X.env = (false, eval b X.env) :: starEach [] X.env := by rfl) :
    DS X W (.Assign [.Tuple [.Name n px, .Name m py] kt pt] (.Tuple [a, b] k2 pt2) pos) E (th (· = E') P) := by
  obtain ⟨ta, a1, a2⟩ := ha
  obtain ⟨tb, b1, b2⟩ := hb
  refine ⟨fun M L H σ D I k => ⟨_, L2.ps_par hc N.nd N.ix M2.ix hij hl1 hl2 (pa_cons a1 (pa_cons b1 pa_nil hs2) hs1) hw hs, a2 M L H σ _ I fun v H1 s1 r1 => b2 M L H1 σ _ (I.same s1) fun w H2 s2 r2 => ⟨v, w, rfl, ?_⟩⟩⟩
  have I2 := I.same (s1.trans s2)
  exact k.nx E' L H2 _ rfl (Step.same (s1.trans s2)) (hE ▸ (I2.setD (Nat.le_of_ble_eq_true hi) (R.same (fz_same s2) _ _ r1)).setD (by rw [List.length_set]; exact Nat.le_of_ble_eq_true hj) r2)
/-- a statement that is an expression -/
theorem ds_expr (he : DE X E e x) (hs : swapsWith e none pos.line X.env = pure false := by rfl) : DS X W (.Expr e pos) E (th (· = E) P) := by
  obtain ⟨te, e1, e2⟩ := he
  exact ⟨fun M L H σ D I k => ⟨_, ps_expr e1 hs, e2 M L H σ _ I fun v H1 s1 r1 => k.nx E L H1 σ rfl (Step.same s1) (I.same s1)⟩⟩

/-! targets -/
/-- only these places may have changed -/
structure Chg (sl : List Nat) (σ σ' : L2.St) : Prop where
  len : σ'.length = σ.length
  get : ∀ j, j ∉ sl → σ'[j]? = σ[j]?
theorem Chg.refl (sl : List Nat) (σ : L2.St) : Chg sl σ σ := ⟨rfl, fun _ _ => rfl⟩
theorem Chg.trans {sl sl' : List Nat} {σ σ' σ'' : L2.St} (a : Chg sl σ σ') (b : Chg sl' σ' σ'') : Chg (sl ++ sl') σ σ'' :=
  ⟨b.len.trans a.len, fun j n => (b.get j fun z => n (List.mem_append_right _ z)).trans (a.get j fun z => n (List.mem_append_left _ z))⟩
theorem Chg.set (i : Nat) (σ : L2.St) (v : Option V) : Chg [i] σ (σ.set i v) := ⟨by rw [List.length_set], fun j n => by
  rw [List.getElem?_set_ne]
  intro e
  exact n (by simp [e])⟩
structure TgR (X : Cx) (tg : Expr) (f : PyData → List Sl → Option (List Sl)) (sl : List Nat) : Prop where
  ex : ∃ g, PG X tg g ∧ ∀ (M L : List Addr) (H : Hp) (σ : L2.St) (v : V) (x : PyData) (E E' : List Sl) (Q : L2.St → Hp → Prop), EnvR X.K M L H σ E → R X.K (fz (L ++ M) H) v x → f x E = some E' → (∀ σ', EnvR X.K M L H σ' E' → Chg sl σ σ' → Q σ' H) → g v σ H Q
structure TgsR (X : Cx) (ts : List Expr) (f : List PyData → List Sl → Option (List Sl)) (sl : List Nat) : Prop where
  ex : ∃ g, PGs X ts g ∧ ∀ (M L : List Addr) (H : Hp) (σ : L2.St) (vs : List V) (xs : List PyData) (E E' : List Sl) (Q : L2.St → Hp → Prop), EnvR X.K M L H σ E → RA X.K (fz (L ++ M) H) vs xs → f xs E = some E' → (∀ σ', EnvR X.K M L H σ' E' → Chg sl σ σ' → Q σ' H) → g vs σ H Q
def fName (i : Nat) : PyData → List Sl → Option (List Sl) := fun x E => if i < E.length then some (E.set i (.o (.d x))) else none
def fTup (f : List PyData → List Sl → Option (List Sl)) : PyData → List Sl → Option (List Sl) := fun x E => match x with
  | .tuple xs => f xs E
  | _ => none
def fNil : List PyData → List Sl → Option (List Sl) := fun xs E => match xs with
  | [] => some E
  | _ => none
def fCons (f : PyData → List Sl → Option (List Sl)) (g : List PyData → List Sl → Option (List Sl)) : List PyData → List Sl → Option (List Sl) := fun xs E => match xs with
  | x :: xs => (f x E).bind (g xs)
  | _ => none
theorem tg_name {i : Nat} {n : Str} (N : LocN X i n) : TgR X (.Name n pos) (fName i) [i] := by
  refine ⟨_, pg_name N.nd N.ix N.loc N.fn, fun M L H σ v x E E' Q I r h k => ?_⟩
  unfold fName at h
  split at h
  · cases h
    exact k _ (I.setD (by assumption) r) (Chg.set _ _ _)
  · cases h
theorem tgs_nil : TgsR X [] fNil [] := by
  refine ⟨_, pgs_nil, fun M L H σ vs xs E E' Q I r h k => ?_⟩
  cases r with
  | nil =>
    cases h
    exact ⟨rfl, k σ I (Chg.refl _ _)⟩
  | cons => cases h
theorem tgs_cons {e : Expr} {es : List Expr} {f : PyData → List Sl → Option (List Sl)} {g : List PyData → List Sl → Option (List Sl)} {s1 s2 : List Nat} (h1 : TgR X e f s1) (h2 : TgsR X es g s2) (hs : (assignEach (e :: es) X.env).map (·.2) = assign e X.env :: (assignEach es X.env).map (·.2) := by rfl) : TgsR X (e :: es) (fCons f g) (s1 ++ s2) := by
  obtain ⟨g1, a1, a2⟩ := h1
  obtain ⟨g2, b1, b2⟩ := h2
  refine ⟨_, pgs_cons a1 b1 hs, fun M L H σ vs xs E E' Q I r h k => ?_⟩
  cases r with
  | nil => cases h
  | cons r1 r2 =>
    rename_i x xs
    have h' : (f x E).bind (g xs) = some E' := h
    cases q : f x E with
    | none => rw [q] at h'; cases h'
    | some E1 =>
      rw [q] at h'
      exact ⟨_, _, rfl, a2 M L H σ _ _ E E1 _ I r1 q fun σ' J hl => b2 M L H σ' _ _ E1 E' Q J r2 h' fun σ2 J2 hl2 => k σ2 J2 (hl.trans hl2)⟩
theorem tg_tup {es : List Expr} {kk : Nat} {f : List PyData → List Sl → Option (List Sl)} {sl : List Nat} (hc : X.calm = true) (h : TgsR X es f sl) (n : Nat) (hf : ∀ xs E E', f xs E = some E' → xs.length = n)
    (hn : (assignEach es X.env).length = n := by rfl) (hst : (assignEach es X.env).findIdx? (·.1) = none := by rfl) : TgR X (.Tuple es kk pos) (fTup f) sl := by
  obtain ⟨g, a1, a2⟩ := h
  refine ⟨_, pg_tup hc a1 hn hst, fun M L H σ v x E E' Q I r h k => ?_⟩
  cases r with
  | tup hs hr => exact ⟨_, _, rfl, same_t fz_sub hs, by rw [hr.length]; exact hf _ _ _ h, a2 M L H σ _ _ E E' Q I hr h k⟩
  | _ => cases h
theorem f2_len {f g : PyData → List Sl → Option (List Sl)} : ∀ xs E E', fCons f (fCons g fNil) xs E = some E' → xs.length = 2
  | [], _, _, h => by cases h
  | [x], E, _, h => by
    have h' : (f x E).bind (fCons g fNil []) = some _ := h
    cases q : f x E with
    | none => rw [q] at h'; cases h'
    | some E1 => rw [q] at h'; cases h'
  | [x, y], _, _, _ => rfl
  | x :: y :: z :: r, E, _, h => by
    have h' : (f x E).bind (fCons g fNil (y :: z :: r)) = some _ := h
    cases q : f x E with
    | none => rw [q] at h'; cases h'
    | some E1 =>
      rw [q] at h'
      have h2 : (g y E1).bind (fNil (z :: r)) = some _ := h'
      cases q2 : g y E1 with
      | none => rw [q2] at h2; cases h2
      | some E2 => rw [q2] at h2; cases h2
/-- two targets -/
theorem tg_two {a b : Expr} {kk : Nat} {f g : PyData → List Sl → Option (List Sl)} {s1 s2 : List Nat} (hc : X.calm = true) (h1 : TgR X a f s1) (h2 : TgR X b g s2) (hs1 : (assignEach [a, b] X.env).map (·.2) = assign a X.env :: (assignEach [b] X.env).map (·.2) := by rfl) (hs2 : (assignEach [b] X.env).map (·.2) = assign b X.env :: (assignEach [] X.env).map (·.2) := by rfl)
    (hn : (assignEach [a, b] X.env).length = 2 := by rfl) (hst : (assignEach [a, b] X.env).findIdx? (·.1) = none := by rfl) : TgR X (.Tuple [a, b] kk pos) (fTup (fCons f (fCons g fNil))) (s1 ++ (s2 ++ [])) :=
  tg_tup hc (tgs_cons h1 (tgs_cons h2 tgs_nil hs2) hs1) 2 f2_len hn hst
/-- target = e -/
theorem ds_asg {tg : Expr} {f : PyData → List Sl → Option (List Sl)} {sl : List Nat} (T : TgR X tg f sl) (he : DE X E e x) (h : f x E = some E' := by rfl) (hs : swapsWithSole [tg] e pos.line X.env = pure false := by rfl) (hw : swappedStores [tg] e X.env = pure none := by rfl) (h1 : (assignEach [tg] X.env).map (·.2) = [assign tg X.env] := by rfl) : DS X W (.Assign [tg] e pos) E (th (· = E') P) := by
  obtain ⟨g, g1, g2⟩ := T
  obtain ⟨te, e1, e2⟩ := he
  exact ⟨fun M L H σ D I k => ⟨_, ps_asg e1 g1 hs hw h1, e2 M L H σ _ I fun v H1 s1 r1 => g2 M L H1 σ v x E E' _ (I.same s1) r1 h fun σ' J _ => k.nx E' L H1 σ' rfl (Step.same s1) J⟩⟩

/-! what a loop walks -/
def WalkD (K : PySem.W.Frag) (J : It) (W0 : List Addr) (H0 : Hp) (xs : List PyData) : Prop :=
  ∃ (G : Hp → Prop) (Y : Nat → Hp → V → Hp → Prop), Walk J xs.length G Y ∧ (∀ W H, Same (fz W0 H0) (fz W H) → G H) ∧
    ∀ W H i v H', Same (fz W0 H0) (fz W H) → (∀ a ∈ W, H a ≠ none) → i < xs.length → Y i H v H' → Same H H' ∧ ∃ x, xs[i]? = some x ∧ R K (fz W H') v x
structure DI (X : Cx) (E : List Sl) (tg it : Expr) (xs : List PyData) : Prop where
  run : ∀ (M L : List Addr) (H : Hp) (σ : L2.St) (Rr : It → Hp → Prop), EnvR X.K M L H σ E → (∀ J H1, Same H H1 → WalkD X.K J (L ++ M) H1 xs → Rr J H1) → ∃ wi, PI X tg it wi ∧ wi σ H Rr
theorem walkd_at {K : PySem.W.Frag} {J : It} {W0 : List Addr} {H0 : Hp} {vs : List V} {G : Hp → Prop} (w : Walk J vs.length G (YAt vs)) (r : RA K (fz W0 H0) vs xs) (g : ∀ W H, Same (fz W0 H0) (fz W H) → G H) : WalkD K J W0 H0 xs := by
  refine ⟨G, YAt vs, r.length ▸ w, g, fun W H i v H' s _ hi y => ?_⟩
  obtain ⟨rfl, e⟩ := y
  obtain ⟨x, h1, h2⟩ := RA.getV r e
  exact ⟨Same.refl _, x, h1, R.same s _ _ h2⟩
theorem di_list {tg : Expr} (ha : DE X E a (.list xs)) : DI X E tg a xs := by
  obtain ⟨ta, a1, a2⟩ := ha
  refine ⟨fun M L H σ Rr I k => ⟨_, pi_list a1, a2 M L H σ _ I fun v H1 s1 r1 => ?_⟩⟩
  cases r1 with
  | lst hs hr => exact ⟨_, rfl, ⟨_, fz_sub.seq hs⟩, k _ H1 s1 (walkd_at walk_list hr fun W H s => fz_sub.seq (s.seq hs))⟩
/-- lo, lo + 1, .. -/
def nums (lo : Int) (n : Nat) : List PyData := (List.range n).map fun (k : Nat) => .int (lo + (k : Int))
theorem nums_len {lo : Int} {n : Nat} : (nums lo n).length = n := by simp [nums]
theorem nums_get {lo : Int} {n i : Nat} (h : i < n) : (nums lo n)[i]? = some (.int (lo + (i : Int))) := by simp [nums, h]
theorem walkd_range {K : PySem.W.Frag} {W0 : List Addr} {H0 : Hp} {lo : Int} {n : Nat} : WalkD K (Itr lo n) W0 H0 (nums lo n) := by
  refine ⟨fun _ => True, (YFn fun i => .int (lo + i)), by rw [nums_len]; exact walk_range, fun _ _ _ => trivial, fun W H i v H' _ _ hi y => ?_⟩
  obtain ⟨rfl, rfl⟩ := y
  rw [nums_len] at hi
  exact ⟨Same.refl _, _, nums_get hi, .int _⟩
theorem di_range1 {tg : Expr} {nm : Pos} {n : Int} (ha : DE X E a (.int n)) (hb : -(2 ^ 62) ≤ n ∧ n < 2 ^ 62) (hg : Gl X "range") (hm : X.mg "range" = none) (hs : starEach [a] X.env = [(false, eval a X.env)] := by rfl) : DI X E tg (.Call (.Name "range" nm) [a] [] pos) (nums 0 n.toNat) := by
  obtain ⟨ta, a1, a2⟩ := ha
  refine ⟨fun M L H σ Rr I k => ⟨_, pi_range1 hg hm (pa_cons a1 pa_nil (by rw [hs]; rfl)) hs, a2 M L H σ _ I fun v H1 s1 r1 => ?_⟩⟩
  cases r1
  exact ⟨n, rfl, hb.1, hb.2, k _ H1 s1 walkd_range⟩
theorem di_range2 {tg : Expr} {nm : Pos} {m n : Int} (ha : DE X E a (.int m)) (hb : DE X E b (.int n)) (hbd : (-(2 ^ 62) ≤ m ∧ m < 2 ^ 62) ∧ (-(2 ^ 62) ≤ n ∧ n < 2 ^ 62)) (hg : Gl X "range") (hm : X.mg "range" = none)
    (hs : starEach [a, b] X.env = [(false, eval a X.env), (false, eval b X.env)] := by rfl) (hs2 : starEach [b] X.env = [(false, eval b X.env)] := by rfl) : DI X E tg (.Call (.Name "range" nm) [a, b] [] pos) (nums m (n - m).toNat) := by
  obtain ⟨ta, a1, a2⟩ := ha
  obtain ⟨tb, b1, b2⟩ := hb
  refine ⟨fun M L H σ Rr I k => ⟨_, pi_range2 hg hm (pa_cons a1 (pa_cons b1 pa_nil (by rw [hs2]; rfl)) (by rw [hs, hs2])) hs hs2, a2 M L H σ _ I fun v H1 s1 r1 => b2 M L H1 σ _ (I.same s1) fun w H2 s2 r2 => ?_⟩⟩
  cases r1
  cases r2
  exact ⟨m, n, rfl, ⟨hbd.1.1, hbd.1.2, hbd.2.1, hbd.2.2⟩, k _ H2 (s1.trans s2) walkd_range⟩
/-- a new pair at each turn -/
theorem walkd_pair {K : PySem.W.Frag} {J : It} {W0 : List Addr} {H0 : Hp} {n : Nat} {G : Hp → Prop} {f g : Nat → Option V} {ps : List PyData} (w : Walk J n G (YPair f g)) (hn : ps.length = n) (hG : ∀ W H, Same (fz W0 H0) (fz W H) → G H)
    (h : ∀ i v w, i < n → f i = some v → g i = some w → ∃ x y, ps[i]? = some (.tuple [x, y]) ∧ R K (fz W0 H0) v x ∧ R K (fz W0 H0) w y) : WalkD K J W0 H0 ps := by
  subst hn
  refine ⟨G, _, w, hG, fun W H i v H' s dm hi y => ?_⟩
  obtain ⟨T, a, b, rfl, hT, rfl, ha, hb⟩ := y
  obtain ⟨x, y, h1, h2, h3⟩ := h i a b hi ha hb
  have sp : Same H (upd H T (.tup [a, b])) := same_new hT
  have nT : T ∉ W := fun z => dm T z hT
  exact ⟨sp, _, h1, .tup (.inl (.inl (by rw [fz_of nT]; exact upd_same))) (.cons (R.same (s.trans (fz_same sp)) _ _ h2) (.cons (R.same (s.trans (fz_same sp)) _ _ h3) .nil))⟩
def enumD (xs : List PyData) : List PyData := (List.range xs.length).zipWith (fun (k : Nat) x => PyData.tuple [.int (k : Int), x]) xs
theorem enumD_len : (enumD xs).length = xs.length := by simp [enumD]
theorem enumD_get {i : Nat} {x : PyData} (h : xs[i]? = some x) : (enumD xs)[i]? = some (.tuple [.int (i : Int), x]) := by
  have hi : i < xs.length := (List.getElem?_eq_some_iff.mp h).1
  have e := (List.getElem?_eq_some_iff.mp h).2
  simp [enumD, List.getElem?_zipWith, hi, e]
theorem di_enum {elts : List Expr} {kk : Nat} {tp nm : Pos} (ha : DE X E a (.list xs)) (hg : Gl X "enumerate") (hm : X.mg "enumerate" = none) (hs : starEach [a] X.env = [(false, eval a X.env)] := by rfl) : DI X E (.Tuple elts kk tp) (.Call (.Name "enumerate" nm) [a] [] pos) (enumD xs) := by
  obtain ⟨ta, a1, a2⟩ := ha
  refine ⟨fun M L H σ Rr I k => ⟨_, pi_enum hg hm (pa_cons a1 pa_nil (by rw [hs]; rfl)) hs, a2 M L H σ _ I fun v H1 s1 r1 => ?_⟩⟩
  cases r1 with
  | lst hs hr =>
    rename_i p vs
    refine ⟨p, vs, rfl, fz_sub.seq hs, k _ H1 s1 (walkd_pair walk_enum (by rw [enumD_len, hr.length]) (fun W H s => fz_sub.seq (s.seq hs)) fun i v w hi e1 e2 => ?_)⟩
    cases e1
    obtain ⟨x, h1, h2⟩ := RA.getV hr e2
    exact ⟨_, x, enumD_get h1, .int _, h2⟩
def zipD (xs ys : List PyData) : List PyData := xs.zipWith (fun x y => PyData.tuple [x, y]) ys
end
/-! ### names that are forgotten -/
inductive Le : List Sl → List Sl → Prop
  | nil : Le [] []
  | same {s : Sl} {E E' : List Sl} : Le E E' → Le (s :: E) (s :: E')
  | drop {s : Sl} {E E' : List Sl} : Le E E' → Le (s :: E) (.no :: E')
theorem Le.refl : ∀ E : List Sl, Le E E
  | [] => .nil
  | s :: E => .same (Le.refl E)
theorem EnvR.le {K : PySem.W.Frag} {M L : List Addr} {H : Hp} {σ : L2.St} {E E' : List Sl} (h : EnvR K M L H σ E) (l : Le E E') : EnvR K M L H σ E' := by
  obtain ⟨⟨F, hs, nF, hL⟩, dom, dj⟩ := h
  have : ∀ {σ E E' F}, Slots K (L ++ M) H σ E F → Le E E' → F.Nodup → ∃ F', Slots K (L ++ M) H σ E' F' ∧ F'.Nodup ∧ ∀ a ∈ F', a ∈ F := by
    intro σ E E' F hs l
    induction l generalizing σ F with
    | nil => intro nF; cases hs; exact ⟨[], .nil, nF, fun a ha => ha⟩
    | same l ih =>
      intro nF
      cases hs with
      | no hs => obtain ⟨F', h1, h2, h3⟩ := ih hs nF; exact ⟨F', .no h1, h2, h3⟩
      | raw hs => obtain ⟨F', h1, h2, h3⟩ := ih hs nF; exact ⟨F', .raw h1, h2, h3⟩
      | fx r hs => obtain ⟨F', h1, h2, h3⟩ := ih hs nF; exact ⟨F', .fx r h1, h2, h3⟩
      | o ho hs =>
        obtain ⟨n1, n2, n3⟩ := List.nodup_append.mp nF
        obtain ⟨F', h1, h2, h3⟩ := ih hs n2
        exact ⟨_, .o ho h1, List.nodup_append.mpr ⟨n1, h2, fun a ha b hb e => n3 a ha b (h3 b hb) e⟩, fun a ha => (List.mem_append.mp ha).elim (fun q => List.mem_append_left _ q) fun q => List.mem_append_right _ (h3 a q)⟩
    | drop l ih =>
      intro nF
      cases hs with
      | no hs => obtain ⟨F', h1, h2, h3⟩ := ih hs nF; exact ⟨F', .no h1, h2, h3⟩
      | raw hs => obtain ⟨F', h1, h2, h3⟩ := ih hs nF; exact ⟨F', .no h1, h2, h3⟩
      | fx r hs => obtain ⟨F', h1, h2, h3⟩ := ih hs nF; exact ⟨F', .no h1, h2, h3⟩
      | o ho hs =>
        obtain ⟨n1, n2, n3⟩ := List.nodup_append.mp nF
        obtain ⟨F', h1, h2, h3⟩ := ih hs n2
        exact ⟨F', .no h1, h2, fun a ha => List.mem_append_right _ (h3 a ha)⟩
  obtain ⟨F', h1, h2, h3⟩ := this hs l nF
  exact ⟨⟨F', h1, h2, fun a ha => hL a (h3 a ha)⟩, dom, dj⟩
theorem ds_le {X : Cx} {W : WX} {sts : List Stmt} {E E' : List Sl} {P : Out → Prop} (l : Le E E') (h : DSs X W sts E' P) : DSs X W sts E P := ⟨fun M L H σ D I k => h.run M L H σ D (I.le l) k⟩
section
variable {X : Cx} {W : WX} {st : Stmt} {sts rest bod els : List Stmt} {E E' : List Sl} {P P' : Out → Prop} {Q : List Sl → Prop} {e a b c : Expr} {x y z : PyData} {xs : List PyData} {pos : Pos} {t : OT} {p : Bool}
/-! loops -/
structure CxF (X : Cx) (W : WX) : Prop where
  calm : X.calm = true
  pass : PassesOwn (model X.prog X.w) X.A X.env X.xe
  take : Takes X W
theorem ds_for (I : Nat → List Sl → Prop) (N : List Sl → Prop) {tg it : Expr} {f : PyData → List Sl → Option (List Sl)} (C : CxF X W) (J : DI X E tg it xs) {sl : List Nat} (T : TgR X tg f sl) {E0 : List Sl} (hle : Le E E0) (h0 : I 0 E0)
    (turn : ∀ i x E1, xs[i]? = some x → I i E1 → ∃ E2, f x E1 = some E2 ∧ DSs X W bod E2 (lp (I (i + 1)) N P)) (done : ∀ E1, I xs.length E1 → N E1)
    (hf : ∀ v, foldedSetIterable it X.env v = pure v := by intro _; rfl) : DS X W (.For tg it bod [] pos) E (th N P) := by
  obtain ⟨g, g1, g2⟩ := T
  refine ⟨fun M L H σ D EI k => ?_⟩
  have hJ : ∀ J H1, Same H H1 → WalkD X.K J (L ++ M) H1 xs → ∃ Wv : Nat → Nat → L2.St → Hp → Prop, (∃ m, Wv 0 m σ H1) ∧ ∀ i m σ H, Wv i m σ H →
      (J.stop i H ∧ D.nx σ H) ∨ (J.go i H ∧ ∃ Nn : L2.St → Hp → Prop, (∀ σ' H', Nn σ' H' → ∃ m', m' < m ∧ Wv (i + 1) m' σ' H') ∧ ∀ x H', J.yld i H x H' → g x σ H' fun σ2 H2 => tAll X bod { D with nx := Nn, ct := Nn, bk := D.nx } σ2 H2) := fun J H1 s1 w => by
    obtain ⟨G, Y, wk, hG, hY⟩ := w
    refine for_it wk (fun i σ' H' => ∃ L' E1, I i E1 ∧ EnvR X.K M L' H' σ' E1 ∧ Step L H1 L' H') ⟨L, E0, h0, (EI.same s1).le hle, Step.refl L H1⟩ (fun i σ' H' _ ⟨L', E1, _, _, s⟩ => hG _ _ s.fz) ?_ ?_
    · rintro i v σ' H' H2 hi ⟨L', E1, i1, e1, s⟩ y
      obtain ⟨s2, x, hx, r⟩ := hY _ _ i v H2 s.fz e1.dom hi y
      obtain ⟨E2, hf2, body⟩ := turn i x E1 hx i1
      refine g2 M L' H2 σ' v x E1 E2 _ (e1.same s2) r hf2 fun σ2 e2 _ => ?_
      have st : Step L H L' H2 := ((Step.same s1).trans s).trans (Step.same s2)
      have st1 : Step L H1 L' H2 := s.trans (Step.same s2)
      have kk := k.step st
      refine body.run M L' H2 σ2 _ e2 ⟨fun E3 L3 H3 σ3 q t J3 => ⟨L3, E3, q, J3, st1.trans t⟩, fun E3 L3 H3 σ3 q t J3 => kk.nx E3 L3 H3 σ3 q t J3, fun E3 L3 H3 σ3 q t J3 => ⟨L3, E3, q, J3, st1.trans t⟩, kk.rt, kk.ex, kk.exd, kk.rte, kk.rto⟩
    · rintro σ' H' ⟨L', E1, i1, e1, s⟩
      exact k.nx E1 L' H' σ' (done E1 i1) ((Step.same s1).trans s) e1
  obtain ⟨wi, w1, w2⟩ := J.run M L H σ _ EI hJ
  exact ⟨_, ps_for C.pass C.calm w1 g1 pss_all hf, w2⟩
theorem pt_all {c : Expr} : PT X c (fun σ H Q => ∃ tt, PT X c tt ∧ tt σ H Q) := ⟨fun pins s σ H Q I ⟨tt, h, q⟩ => h.run pins s σ H Q I q⟩
theorem ds_while (I : Nat → List Sl → Prop) (N : List Sl → Prop) (C : CxF X W) {m0 : Nat} (h0 : I m0 E)
    (turn : ∀ m E1, I m E1 → ∃ p, DT X E1 c p ∧ (p = true → DSs X W bod E1 (lp (fun E2 => ∃ m', m' < m ∧ I m' E2) N P)) ∧ (p = false → N E1)) : DS X W (.While c bod [] pos) E (th N P) := by
  refine ⟨fun M L H σ D EI k => ⟨_, ps_while C.pass pt_all pss_all, fun m σ' H' => ∃ L' E1, I m E1 ∧ EnvR X.K M L' H' σ' E1 ∧ Step L H L' H', ⟨m0, L, E, h0, EI, Step.refl L H⟩, ?_⟩⟩
  rintro m σ' H' ⟨L', E1, i1, e1, s⟩
  obtain ⟨p, ⟨tt, t1, t2⟩, hT, hF⟩ := turn m E1 i1
  refine ⟨tt, t1, t2 M L' H' σ' _ e1 fun H2 s2 => ?_⟩
  have kk := k.step (s.trans (Step.same s2))
  cases p with
  | true =>
    refine iteT ⟨fun σ3 H3 => ∃ L3 E3 m3, m3 < m ∧ I m3 E3 ∧ EnvR X.K M L3 H3 σ3 E3 ∧ Step L H L3 H3, fun σ3 H3 ⟨L3, E3, m3, a1, a2, a3, a4⟩ => ⟨m3, a1, L3, E3, a2, a3, a4⟩, ?_⟩
    refine (hT rfl).run M L' H2 σ' _ (e1.same s2) ⟨fun E3 L3 H3 σ3 q t J3 => ?_, fun E3 L3 H3 σ3 q t J3 => kk.nx E3 L3 H3 σ3 q t J3, fun E3 L3 H3 σ3 q t J3 => ?_, kk.rt, kk.ex, kk.exd, kk.rte, kk.rto⟩
    · obtain ⟨m3, q1, q2⟩ := q
      exact ⟨L3, E3, m3, q1, q2, J3, (s.trans (Step.same s2)).trans t⟩
    · obtain ⟨m3, q1, q2⟩ := q
      exact ⟨L3, E3, m3, q1, q2, J3, (s.trans (Step.same s2)).trans t⟩
  | false => exact iteF (kk.nx E1 L' H2 σ' (hF rfl) (Step.refl L' H2) (e1.same s2))
end
end D

end

section
set_option Elab.async false
set_option linter.all false
set_option autoImplicit false
set_option maxRecDepth 100000
set_option maxHeartbeats 2000000
namespace D
open PySem L2 PySem.Spec PyProof.Rows

/-! ### a def by its body -/
/-- what a body's end says of the call's -/
def fin (r : Res) : Out → Prop
  | .rt t => r = .ok t ∨ r = .ok (.d t.dat)
  | .nx _ => r = .ok (.d .none)
  | .ex C fs _ => r = .ex C fs
  | _ => False
def entry (n : Nat) (xs : List PyData) : List Sl := xs.map Sl.v ++ List.replicate (n - xs.length) .no
abbrev wF (E : XK) : WX := fun cls d _ H => E cls d H
theorem postOk_fin {K : PySem.W.Frag} {M : List Addr} {H : Hp} {Q : VK} {Ex : XK} {r : Res} (dm : ∀ a ∈ M, H a ≠ none) (h : PostR K M H Q Ex r) : PostOk K M [] H (fin r) { nx := fun _ H' => Q .non H', rt := Q } (wF Ex) := by
  have sm : ∀ {L' : List Addr} {H' : Hp}, Step [] H L' H' → Same H H' := fun s a o e => s.keep a o (by simp) e
  have fr : ∀ {L' : List Addr} {H' : Hp}, Step [] H L' H' → ∀ a ∈ L', H a = none := fun s a ha => (s.new a ha).elim (fun z => by cases z) id
  refine ⟨fun E' L' H' σ' p s I => ?_, fun E' L' H' σ' p s I => p.elim, fun E' L' H' σ' p s I => p.elim, fun t v L' H' F p s d2 hF nF o => ?_, fun C E' L' H' σ' p s I => ?_, fun C fs E' L' H' σ' d gs F p s I hd hdL hdx nF hFr fr2 => ?_, fun x v E' L' H' σ' p s I r => p.elim, fun u v E' L' H' σ' p s I => p.elim⟩
  · have p' : r = .ok (.d .none) := p
    subst p'
    exact h .non H' [] (sm s) List.nodup_nil (fun a ha => by cases ha) (.d .non)
  · have hM : ∀ a ∈ F, a ∉ M := fun a ha z => dm a z (fr s a (hF a ha))
    rcases (show r = .ok t ∨ r = .ok (.d t.dat) from p) with p' | p'
    · subst p'
      exact h v H' F (sm s) nF (fun a ha => fr s a (hF a ha)) (Own.mono (fz_mono fun a o n e => ⟨fun z => n ((List.mem_append.mp z).elim (fun q => List.mem_append_left _ (hF a q)) fun q => List.mem_append_right _ q), e⟩) _ _ _ (fun a ha => ⟨List.mem_append_left _ ha, rfl⟩) o)
    · subst p'
      exact h v H' [] (sm s) List.nodup_nil (fun a ha => by cases ha) (.d (Own.rd _ _ _ o (fun a o n e => ⟨fun z => n (List.mem_append_right _ z), e⟩) fun a ha => ⟨hM a ha, rfl⟩))
  · have p' : r = .ex C none := p
    subst p'
    exact h H' (sm s)
  · have p' : r = .ex C (some fs) := p
    subst p'
    refine h d gs H' F (sm s) hd (fun z => (hFr d z).2.2 rfl) hdx nF (fun a ha => (hFr a ha).1) ?_
    clear h p
    have : ∀ {W W' : List Addr}, (∀ a o, a ∉ W → H' a = some o → a ∉ W' ∧ H' a = some o) → (∀ a, a ∈ F → a ∈ W') → ∀ {gs fs G}, FldR K W H' gs fs G → (∀ a ∈ G, a ∈ F) → FldR K W' H' gs fs G := by
      intro W W' e hw gs fs G r
      induction r with
      | nil => intro _; exact .nil
      | cons r1 _ ih => intro hG; exact .cons (Own.mono (fz_mono e) _ _ _ (fun a ha => ⟨hw a (hG a (List.mem_append_left _ ha)), rfl⟩) r1) (ih fun a ha => hG a (List.mem_append_right _ ha))
    exact this (fun a o n e => ⟨fun z => n ((List.mem_append.mp z).elim (fun q => List.mem_append_left _ q) fun q => List.mem_append_right _ (List.mem_append_right _ q)), e⟩) (fun a ha => List.mem_append_left _ ha) fr2 fun a ha => ha
section
variable {P : Program} {w : World} {K : PySem.W.Frag} {mg : Str → Option Value} {base : Heap}
theorem cxf_of {N : List Str} {qual : Str} {sc : Scope} {f : Addr} {cdv : Value} {A : Around} {outer : List Env} {s : Shared} {H : Hp} {E : XK} : CxF (cxOf (L2.CX P w) P w K mg base N qual sc f cdv A outer s H E) (wF E) :=
  ⟨rfl, passes_of (K := fun e s'' => L2.CX P w outer H s E e s'') rfl, takes_of rfl rfl rfl (E₁ := fun e' s'' => L2.CX P w outer H s E e' s'') rfl⟩
/-- THE RULE for a def: its body, by data -/
theorem fn_ok {x qual : Str} {st : Stmt} {f : Addr} {fd : FuncData} {N ps : List Str} {k n : Nat} {Rf : List PyData → Res → Prop} (F : Fun K x qual st f fd) (S : FnScope N ps (defScope st)) (hn : ps.length = n)
    (hbody : ∀ (cdv : Value) (A : Around) (outer : List Env) (s : Shared) (H : Hp) (E : XK) (X : Cx), X = cxOf (L2.CX P w) P w K mg base N qual (defScope st) f cdv A outer s H E → CxF X (wF E) → Room k X.A → ∀ xs r, xs.length = n → Rf xs r → DSs X (wF E) (defBody st) (entry N.length xs) (fin r)) :
    FnOk P w K mg base (L2.CX P w) (k + 1) f fd ps (spD K n Rf) := by
  refine F.okX S (fun vs H Q E h => ?_) (fun cdv A outer s H vs Q E hr h => ?_)
  · obtain ⟨M, xs, r, h1, h2, h3, h4⟩ := h
    rw [h3.length, h1, hn]
  · obtain ⟨M, xs, r, h1, h2, h3, h4, h5⟩ := h
    refine (hbody cdv A outer s H E _ rfl cxf_of hr xs r h1 h4).run M [] H (start N vs) _ ⟨⟨[], ?_, List.nodup_nil, fun a ha => ha⟩, h2, fun a ha => by cases ha⟩ (postOk_fin h2 h5)
    have q := Slots.start (K := K) (W := M) (H := H) vs xs (N.length - xs.length) h3
    have e : L2.start N vs = vs.map some ++ List.replicate (N.length - xs.length) none := by
      unfold L2.start
      rw [h3.length]
    rw [e]
    exact q
end

/-! ### raise -/
structure OwnExc (K : PySem.W.Frag) (mg : Str → Option Value) (n : Str) (C : Addr) : Prop where
  x : PySem.W.excIn K C [.type "ValueError", .type "Exception", .type "BaseException", .type "object"] "ValueError.__new__" = true
  g : mg n = some (.ref C)
  k : PySem.W.keepIn K (.ref C) = true
  b : PySem.W.subIn K (.ref C) (.type "BaseException") = some true
  t : PySem.W.typeIn K (.ref C) = some (.type "type")
section
variable {X : Cx} {W : WX} {st : Stmt} {rest : List Stmt} {E E' : List Sl} {P P' : Out → Prop} {e a b c : Expr} {es : List Expr} {x y z : PyData} {xs : List PyData} {pos : Pos} {t : OT} {p : Bool} {C : Addr} {n : Str}
theorem ds_raise {m : Str} {j : Nat} {p1 p2 p3 : Pos} (T : CxF X W) (O : OwnExc X.K X.mg n C) (hg : Gl X n) (h : P (.ex C none E)) (hdb : (n == ("__debug__" : Str)) = false := by decide) :
    DSs X W (.Raise (some (.Call (.Name n p1) [.Constant (.str m) j p2] [] p3)) none pos :: rest) E P :=
  ⟨fun M L H σ D I k => ⟨_, pss_cons (L2.ps_raise T.calm T.take (pmk_own PySem.F.excBase_ValueError O.x O.g O.k (raises_own O.b O.t) hg hdb)) pss_all, k.ex C E L H σ h (Step.refl L H) I⟩⟩
/-! ### try -/
theorem EnvR.setNo {K : PySem.W.Frag} {M L : List Addr} {H : Hp} {σ : L2.St} {E : List Sl} {i : Nat} {o : Option V} (h : EnvR K M L H σ E) : EnvR K M L H (σ.set i o) (E.set i .no) := by
  obtain ⟨⟨F, hs, nF, hL⟩, dom, dj⟩ := h
  have : ∀ {σ E F}, Slots K (L ++ M) H σ E F → F.Nodup → ∀ i, ∃ F', Slots K (L ++ M) H (σ.set i o) (E.set i .no) F' ∧ F'.Nodup ∧ ∀ a ∈ F', a ∈ F := by
    intro σ E F h
    induction h with
    | nil => intro nF i; exact ⟨[], .nil, nF, fun a ha => ha⟩
    | no hs ih =>
      intro nF i
      cases i with
      | zero => exact ⟨_, .no hs, nF, fun a ha => ha⟩
      | succ i => obtain ⟨F', h1, h2, h3⟩ := ih nF i; exact ⟨F', .no h1, h2, h3⟩
    | raw hs ih =>
      intro nF i
      cases i with
      | zero => exact ⟨_, .no hs, nF, fun a ha => ha⟩
      | succ i => obtain ⟨F', h1, h2, h3⟩ := ih nF i; exact ⟨F', .raw h1, h2, h3⟩
    | fx r hs ih =>
      intro nF i
      cases i with
      | zero => exact ⟨_, .no hs, nF, fun a ha => ha⟩
      | succ i => obtain ⟨F', h1, h2, h3⟩ := ih nF i; exact ⟨F', .fx r h1, h2, h3⟩
    | o ho hs ih =>
      intro nF i
      obtain ⟨n1, n2, n3⟩ := List.nodup_append.mp nF
      cases i with
      | zero => exact ⟨_, .no hs, n2, fun a ha => List.mem_append_right _ ha⟩
      | succ i =>
        obtain ⟨F', h1, h2, h3⟩ := ih n2 i
        exact ⟨_, .o ho h1, List.nodup_append.mpr ⟨n1, h2, fun a ha b hb e => n3 a ha b (h3 b hb) e⟩, fun a ha => (List.mem_append.mp ha).elim (fun q => List.mem_append_left _ q) fun q => List.mem_append_right _ (h3 a q)⟩
  obtain ⟨F', h1, h2, h3⟩ := this hs nF i
  exact ⟨⟨F', h1, h2, fun a ha => hL a (h3 a ha)⟩, dom, dj⟩
end
end D

end

section
set_option Elab.async false
set_option linter.all false
set_option autoImplicit false
set_option maxRecDepth 100000
set_option maxHeartbeats 2000000
namespace D
open PySem L2 PySem.Spec PyProof.Rows

/-! ### isinstance of a caught exception -/
/-- a name that holds a class -/
structure ClsN (X : Cx) (n : Str) (v : V) (u : Value) : Prop where
  pe : ∀ pos, PE X (.Name n pos) (tC v)
  is : ClsV v u
section
variable {X : Cx} {W : WX} {st : Stmt} {sts rest bod : List Stmt} {E E' : List Sl} {P P' : Out → Prop} {e a b c : Expr} {es : List Expr} {x y z : PyData} {xs : List PyData} {pos : Pos} {t : OT} {p : Bool} {n : Str}
/-- names of classes, side by side -/
inductive ClsNs (X : Cx) : List Expr → List V → List Value → Prop where
  | nil : ClsNs X [] [] []
  | cons {n : Str} {pos : Pos} {v : V} {u : Value} {es : List Expr} {vs : List V} {us : List Value} : ClsN X n v u → ClsNs X es vs us → (starEach (.Name n pos :: es) X.env = (false, eval (.Name n pos) X.env) :: starEach es X.env) → ClsNs X (.Name n pos :: es) (v :: vs) (u :: us)
def tCs : List V → TA
  | [] => tNil
  | v :: vs => tCons (tC v) (tCs vs)
theorem ClsNs.pa {X : Cx} {es : List Expr} {vs : List V} {us : List Value} (h : ClsNs X es vs us) : PA X es (tCs vs) := by
  induction h with
  | nil => exact pa_nil
  | cons n _ hs ih => exact pa_cons (n.pe _) ih hs
/-! ### lists that change -/
theorem Slots.mut {K : PySem.W.Frag} {W : List Addr} {H : Hp} {σ : L2.St} {E : List Sl} {F : List Addr} (h : Slots K W H σ E F) : F.Nodup → ∀ (i : Nat) (ts : List OT), E[i]? = some (.o (.l ts)) →
    ∃ p vs G, σ[i]? = some (some (.ref p)) ∧ H p = some (.lst vs) ∧ Owns K W H vs ts G ∧ p ∈ W ∧ G.Nodup ∧ p ∈ F ∧
      ∀ vs' ts' G', Owns K W H vs' ts' G' → G'.Nodup → (∀ a ∈ G', a ∈ G) → ∃ F', Slots K W (upd H p (.lst vs')) σ (E.set i (.o (.l ts'))) F' ∧ F'.Nodup ∧ ∀ a ∈ F', a ∈ F := by
  induction h with
  | nil => intro _ i ts e; simp at e
  | no hs ih =>
    intro nF i ts e
    cases i with
    | zero => simp at e
    | succ i =>
      obtain ⟨p, vs, G, h1, h2, h3, h4, h5, h6, h7⟩ := ih nF i ts (by simpa using e)
      refine ⟨p, vs, G, h1, h2, h3, h4, h5, h6, fun vs' ts' G' o n g => ?_⟩
      obtain ⟨F', k1, k2, k3⟩ := h7 vs' ts' G' o n g
      exact ⟨F', .no k1, k2, k3⟩
  | raw hs ih =>
    intro nF i ts e
    cases i with
    | zero => simp at e
    | succ i =>
      obtain ⟨p, vs, G, h1, h2, h3, h4, h5, h6, h7⟩ := ih nF i ts (by simpa using e)
      refine ⟨p, vs, G, h1, h2, h3, h4, h5, h6, fun vs' ts' G' o n g => ?_⟩
      obtain ⟨F', k1, k2, k3⟩ := h7 vs' ts' G' o n g
      exact ⟨F', .raw k1, k2, k3⟩
  | fx r hs ih =>
    intro nF i ts e
    cases i with
    | zero => simp at e
    | succ i =>
      obtain ⟨p, vs, G, h1, h2, h3, h4, h5, h6, h7⟩ := ih nF i ts (by simpa using e)
      refine ⟨p, vs, G, h1, h2, h3, h4, h5, h6, fun vs' ts' G' o n g => ?_⟩
      obtain ⟨F', k1, k2, k3⟩ := h7 vs' ts' G' o n g
      exact ⟨F', .fx (by rw [fz_upd h4]; exact r) k1, k2, k3⟩
  | @o v1 t1 G1 σ1 E1 F1 ho hs ih =>
    intro nF i ts e
    obtain ⟨n1, n2, n3⟩ := List.nodup_append.mp nF
    cases i with
    | zero =>
      cases Option.some.inj e
      cases ho with
      | @l p vs _ G hp hl hos =>
        obtain ⟨m1, m2⟩ := List.nodup_cons.mp n1
        refine ⟨p, vs, G, rfl, hl, hos, hp, m2, List.mem_append_left _ List.mem_cons_self, fun vs' ts' G' o n g => ?_⟩
        have keep : ∀ a, a ≠ p → upd H p (.lst vs') a = H a := fun a q => upd_ne q
        have pF : ∀ a ∈ F1, a ≠ p := fun a ha q => n3 p List.mem_cons_self a ha q.symm
        refine ⟨_, .o (.l hp upd_same (Owns.mono (by rw [fz_upd hp]; exact Same.refl _) _ _ _ (fun a ha => ⟨(Owns.sub _ _ _ o a ha).1, keep a fun q => m1 (q ▸ g a ha)⟩) o)) (hs.mono (by rw [fz_upd hp]; exact Same.refl _) fun a ha => ⟨(hs.sub a ha).1, keep a (pF a ha)⟩), ?_, ?_⟩
        · refine List.nodup_append.mpr ⟨List.nodup_cons.mpr ⟨fun z => m1 (g p z), n⟩, n2, fun a ha b hb q => ?_⟩
          rcases List.mem_cons.mp ha with z | z
          · exact pF b hb (q.symm.trans z)
          · exact n3 a (List.mem_cons_of_mem _ (g a z)) b hb q
        · intro a ha
          rcases List.mem_append.mp ha with z | z
          · rcases List.mem_cons.mp z with z | z
            · exact List.mem_append_left _ (z ▸ List.mem_cons_self)
            · exact List.mem_append_left _ (List.mem_cons_of_mem _ (g a z))
          · exact List.mem_append_right _ z
    | succ i =>
      obtain ⟨p, vs, G, h1, h2, h3, h4, h5, h6, h7⟩ := ih n2 i ts (by simpa using e)
      refine ⟨p, vs, G, h1, h2, h3, h4, h5, List.mem_append_right _ h6, fun vs' ts' G' o n g => ?_⟩
      obtain ⟨F', k1, k2, k3⟩ := h7 vs' ts' G' o n g
      have pG : ∀ a ∈ G1, a ≠ p := fun a ha q => n3 a ha p h6 q
      refine ⟨_, .o (Own.mono (by rw [fz_upd h4]; exact Same.refl _) _ _ _ (fun a ha => ⟨(Own.sub _ _ _ ho a ha).1, upd_ne (pG a ha)⟩) ho) k1, ?_, ?_⟩
      · exact List.nodup_append.mpr ⟨n1, k2, fun a ha b hb q => n3 a ha b (k3 b hb) q⟩
      · intro a ha
        exact (List.mem_append.mp ha).elim (fun z => List.mem_append_left _ z) fun z => List.mem_append_right _ (k3 a z)
/-- an own list in a name, changed in place -/
theorem EnvR.mut {K : PySem.W.Frag} {M L : List Addr} {H : Hp} {σ : L2.St} {E : List Sl} {i : Nat} {ts : List OT} (h : EnvR K M L H σ E) (e : E[i]? = some (.o (.l ts))) :
    ∃ p vs G, σ[i]? = some (some (.ref p)) ∧ H p = some (.lst vs) ∧ Owns K (L ++ M) H vs ts G ∧ G.Nodup ∧ p ∈ L ∧
      ∀ vs' ts' G', Owns K (L ++ M) H vs' ts' G' → G'.Nodup → (∀ a ∈ G', a ∈ G) → EnvR K M L (upd H p (.lst vs')) σ (E.set i (.o (.l ts'))) ∧ Step L H L (upd H p (.lst vs')) := by
  obtain ⟨⟨F, hs, nF, hL⟩, dom, dj⟩ := h
  obtain ⟨p, vs, G, h1, h2, h3, h4, h5, h6, h7⟩ := hs.mut nF i ts e
  refine ⟨p, vs, G, h1, h2, h3, h5, hL p h6, fun vs' ts' G' o n g => ?_⟩
  obtain ⟨F', k1, k2, k3⟩ := h7 vs' ts' G' o n g
  have ne : ∀ a, H a ≠ none → upd H p (.lst vs') a ≠ none := fun a q z => by
    by_cases m : a = p
    · rw [m, upd_same] at z; cases z
    · rw [upd_ne m] at z; exact q z
  exact ⟨⟨⟨F', k1, k2, fun a ha => hL a (k3 a ha)⟩, fun a ha => ne a (dom a ha), dj⟩, ⟨fun a o m q => by rw [upd_ne (fun z : a = p => m (by rw [z]; exact hL p h6))]; exact q, fun a ha => .inl ha, ne⟩⟩
theorem Owns.append {K : PySem.W.Frag} {W : List Addr} {H : Hp} : ∀ {ts us : List OT} {vs ws : List V} {F G : List Addr}, Owns K W H vs ts F → Owns K W H ws us G → Owns K W H (vs ++ ws) (ts ++ us) (F ++ G)
  | [], _, _, _, _, _, h, g => by cases h; exact g
  | t :: ts, us, _, ws, _, G, h, g => by
    cases h with
    | @cons v t F1 vs ts G1 h1 h2 =>
      rw [List.append_assoc]
      exact .cons h1 (Owns.append h2 g)
theorem Own.same {K : PySem.W.Frag} {W : List Addr} {H H' : Hp} {v : V} {t : OT} {F : List Addr} (s : Same H H') (h : Own K W H v t F) : Own K W H' v t F := Own.mono (fz_same s) _ _ _ (fun a ha => by
  obtain ⟨h1, vs, h2, _⟩ := Own.sub _ _ _ h a ha
  exact ⟨h1, eq_same s h2⟩) h
theorem Owns.same {K : PySem.W.Frag} {W : List Addr} {H H' : Hp} {vs : List V} {ts : List OT} {F : List Addr} (s : Same H H') (h : Owns K W H vs ts F) : Owns K W H' vs ts F := Owns.mono (fz_same s) _ _ _ (fun a ha => by
  obtain ⟨h1, vs, h2, _⟩ := Owns.sub _ _ _ h a ha
  exact ⟨h1, eq_same s h2⟩) h
/-- xs.append(e) -/
theorem ds_append {i : Nat} {ts : List OT} {nx : Str} {ap cp np : Pos} (hv : ∀ pos, PE X (.Name nx pos) (tVar i)) (he : DE X E e x) (g : E[i]? = some (.o (.l ts))) (hl : ts.length < sizeLine) (hE : E.set i (.o (.l (ts ++ [.d x]))) = E' := by rfl)
    (hbase : attributeBase (.Name nx np) "append" X.env (eval (.Name nx np) X.env) = eval (.Name nx np) X.env := by rfl)
    (hfew : ((backTo cp (starEach [e] X.env)).all (fun x => !x.1) && (backToKw cp (keywordEach [] X.env)).all (fun x => x.1.isSome) && decide ([e].length + ([] : List Keyword).length + (if ([] : List Keyword).isEmpty then 0 else 1) < 30)) = true := by rfl)
    (hline : (ap.endLine == cp.line) = true := by rfl) (hs : starEach [e] X.env = (false, eval e X.env) :: starEach [] X.env := by rfl) (hplain : (backTo cp (starEach [] X.env)).any (·.1) = false := by rfl)
    (hsw : swapsWith (.Call (.Attribute (.Name nx np) "append" ap) [e] [] cp) none pos.line X.env = pure false := by rfl) :
    DS X W (.Expr (.Call (.Attribute (.Name nx np) "append" ap) [e] [] cp) pos) E (th (· = E') P) := by
  obtain ⟨te, e1, e2⟩ := he
  refine ⟨fun M L H σ D I k => ⟨_, ps_expr (pe_bm PySem.F.plainAttrs_list PySem.F.slot_list_append PySem.F.type_list_append mt_append (hv _) (pa_cons e1 pa_nil hs) hbase hfew hline hs hplain) hsw, ?_⟩⟩
  obtain ⟨p, vs, G, h1, h2, h3, _⟩ := I.mut g
  refine ⟨.ref p, h1, .inl ⟨rfl, vs, .inl (.inl h2)⟩, e2 M L H σ _ I fun v H1 s1 r1 => ?_⟩
  have I1 := I.same s1
  obtain ⟨p', vs', G', h1', h2', h3', h4', h5', h6'⟩ := I1.mut g
  have ep : p = p' := by
    have z := h1.symm.trans h1'
    injection z with z
    injection z with z
    injection z
  subst ep
  have h2'' := s1 p _ h2
  rw [h2'] at h2''
  cases h2''
  obtain ⟨q1, q2⟩ := h6' (vs ++ [v]) (ts ++ [.d x]) (G' ++ ([] ++ [])) (h3'.append (.cons (.d r1) .nil)) (by simpa using h4') (fun a ha => by simpa using ha)
  exact ⟨p, vs, v, rfl, rfl, h2', by rw [h3'.length]; exact hl, k.nx E' L _ σ rfl ((Step.same s1).trans q2) (hE ▸ q1)⟩
end
end D

end

section
set_option Elab.async false
set_option linter.all false
set_option autoImplicit false
set_option maxRecDepth 100000
set_option maxHeartbeats 2000000
namespace D
open PySem L2 PySem.Spec PyProof.Rows

/-! ### how typed things are written as data -/
abbrev eP {α β : Type} (f : α → PyData) (g : β → PyData) (p : α × β) : PyData := .tuple [f p.1, g p.2]
abbrev eL {α : Type} (f : α → PyData) (xs : List α) : PyData := .list (xs.map f)
abbrev eO {α : Type} (f : α → PyData) : Option α → PyData
  | none => .none
  | some x => f x
abbrev eU : Unit → PyData := fun _ => .none
/-- a list that is owned -/
abbrev oL {α : Type} (f : α → PyData) (xs : List α) : OT := .l ((xs.map f).map .d)
structure T3 (α β γ : Type) where
  a : α
  b : β
  c : γ
structure T4 (α β γ δ : Type) where
  a : α
  b : β
  c : γ
  d : δ
structure T5 (α β γ δ ε : Type) where
  a : α
  b : β
  c : γ
  d : δ
  e : ε
abbrev eT3 {α β γ : Type} (f : α → PyData) (g : β → PyData) (h : γ → PyData) (p : T3 α β γ) : PyData := .tuple [f p.a, g p.b, h p.c]
abbrev eT4 {α β γ δ : Type} (f : α → PyData) (g : β → PyData) (h : γ → PyData) (i : δ → PyData) (p : T4 α β γ δ) : PyData := .tuple [f p.a, g p.b, h p.c, i p.d]
abbrev eT5 {α β γ δ ε : Type} (f : α → PyData) (g : β → PyData) (h : γ → PyData) (i : δ → PyData) (j : ε → PyData) (p : T5 α β γ δ ε) : PyData := .tuple [f p.a, g p.b, h p.c, i p.d, j p.e]
instance {α β γ : Type} [Inhabited α] [Inhabited β] [Inhabited γ] : Inhabited (T3 α β γ) := ⟨⟨default, default, default⟩⟩
instance {α β γ δ : Type} [Inhabited α] [Inhabited β] [Inhabited γ] [Inhabited δ] : Inhabited (T4 α β γ δ) := ⟨⟨default, default, default, default⟩⟩
instance {α β γ δ ε : Type} [Inhabited α] [Inhabited β] [Inhabited γ] [Inhabited δ] [Inhabited ε] : Inhabited (T5 α β γ δ ε) := ⟨⟨default, default, default, default, default⟩⟩
instance : Inhabited PyData := ⟨.none⟩
theorem dat_oL {α : Type} (f : α → PyData) (xs : List α) : (oL f xs).dat = eL f xs := by
  show PyData.list (dats ((xs.map f).map .d)) = _
  rw [dats_d]
/-- xs[i] -/
def gx {α : Type} [Inhabited α] (xs : List α) (i : Int) : α := (atI xs i).getD default
/-- i is a place in n -/
def inR (n : Nat) (i : Int) : Prop := -(n : Int) ≤ i ∧ i < n
theorem at_gx {α : Type} [Inhabited α] {xs : List α} {i : Int} (h : inR xs.length i) : atI xs i = some (gx xs i) := by
  unfold gx atI ixN
  obtain ⟨h1, h2⟩ := h
  by_cases h0 : 0 ≤ i
  · rw [if_pos h0, if_pos h2]
    have hl : i.toNat < xs.length := by omega
    show xs[i.toNat]? = some (xs[i.toNat]?.getD default)
    rw [List.getElem?_eq_getElem hl]
    rfl
  · rw [if_neg h0, if_pos h1]
    have hl : (i + xs.length).toNat < xs.length := by omega
    show xs[(i + xs.length).toNat]? = some (xs[(i + xs.length).toNat]?.getD default)
    rw [List.getElem?_eq_getElem hl]
    rfl
theorem gx_eq {α : Type} [Inhabited α] {xs : List α} {i : Int} {v : α} (h0 : 0 ≤ i) (h : xs[i.toNat]? = some v) : gx xs i = v := by
  unfold gx
  rw [at_lt h0 h]
  rfl
theorem cutG_map {α β : Type} (f : α → β) (xs : List α) (lo hi : Option Int) : cutG (xs.map f) lo hi = (cutG xs lo hi).map f := by
  unfold cutG
  rw [List.length_map, List.map_take, List.map_drop]
/-- lo, lo + 1, .. -/
def rng (lo : Int) (n : Nat) : List Int := (List.range n).map fun (k : Nat) => lo + (k : Int)
theorem rng_len {lo : Int} {n : Nat} : (rng lo n).length = n := by simp [rng]
theorem nums_rng {lo : Int} {n : Nat} : nums lo n = (rng lo n).map .int := by simp [nums, rng]
theorem rng_get {lo : Int} {n i : Nat} {a : Int} (h : (rng lo n)[i]? = some a) : a = lo + (i : Int) ∧ i < n := by
  have hi : i < n := by
    have := (List.getElem?_eq_some_iff.mp h).1
    rwa [rng_len] at this
  refine ⟨?_, hi⟩
  unfold rng at h
  rw [List.getElem?_map, List.getElem?_range hi] at h
  exact (Option.some.inj h).symm
def enumL {α : Type} (xs : List α) : List (Int × α) := (rng 0 xs.length).zip xs
theorem zipD_map {α β : Type} (f : α → PyData) (g : β → PyData) (xs : List α) (ys : List β) : zipD (xs.map f) (ys.map g) = (xs.zip ys).map (eP f g) := by
  unfold zipD
  induction xs generalizing ys with
  | nil => simp
  | cons x xs ih =>
    cases ys with
    | nil => simp
    | cons y ys => simp [ih]
theorem enumD_map {α : Type} (f : α → PyData) (xs : List α) : enumD (xs.map f) = (enumL xs).map (eP .int f) := by
  unfold enumL
  rw [← zipD_map]
  unfold enumD zipD rng
  rw [List.length_map, List.map_map, List.zipWith_map_left]
  congr 1
  funext k x
  simp
section
variable {X : Cx} {W : WX} {st : Stmt} {sts rest bod : List Stmt} {E E' : List Sl} {P P' : Out → Prop} {e a b c : Expr} {es : List Expr} {x y z : PyData} {pos : Pos} {t : OT} {p : Bool} {α β : Type} {f : α → PyData} {g : β → PyData} {xs : List α} {i j : Int}
theorem de_ixL [Inhabited α] (ha : DE X E a (eL f xs)) (hb : DE X E b (.int i)) (h : inR xs.length i) (hs : PlainIx b := by exact fun _ _ => rfl) : DE X E (.Subscript a b pos) (f (gx xs i)) := de_ix ha hb (at_map (at_gx h)) hs
theorem de_lenL {nm : Pos} (ha : DE X E a (eL f xs)) (hg : Gl X "len") (hm : X.mg "len" = none) (hs : starEach [a] X.env = (false, eval a X.env) :: starEach [] X.env := by rfl) : DE X E (.Call (.Name "len" nm) [a] [] pos) (.int (xs.length : Int)) := (de_lenD ha hg hm hs).cast (by rw [List.length_map])
theorem dn_cutL {lo hi : Option Expr} {ol oh : Option Int} {p2 : Pos} (ha : DE X E a (eL f xs)) (hl : DO X E lo ol) (hh : DO X E hi oh) : DN X E (.Subscript a (.Slice lo hi none p2) pos) (oL f (cutG xs ol oh)) := (dn_cut ha hl hh).cast (by rw [cutG_map])
theorem dn_listL {nm : Pos} (ha : DE X E a (eL f xs)) (hg : Gl X "list") (hm : X.mg "list" = none) (hs : starEach [a] X.env = (false, eval a X.env) :: starEach [] X.env := by rfl) : DN X E (.Call (.Name "list" nm) [a] [] pos) (oL f xs) := dn_list ha hg hm hs
theorem dn_catL {ys : List α} (ha : DE X E a (eL f xs)) (hb : DE X E b (eL f ys)) (hl : xs.length + ys.length ≤ sizeLine) : DN X E (.BinOp a .Add b pos) (oL f (xs ++ ys)) := (dn_cat ha hb (by simpa using hl)).cast (by simp)
theorem DN.toL (h : DN X E e (oL f xs)) : DE X E e (eL f xs) := h.toE.cast (dat_oL f xs)
theorem di_range1L {tg : Expr} {nm : Pos} {n : Int} (ha : DE X E a (.int n)) (hb : -(2 ^ 62) ≤ n ∧ n < 2 ^ 62) (hg : Gl X "range") (hm : X.mg "range" = none) (hs : starEach [a] X.env = [(false, eval a X.env)] := by rfl) : DI X E tg (.Call (.Name "range" nm) [a] [] pos) ((rng 0 n.toNat).map .int) := nums_rng ▸ di_range1 ha hb hg hm hs
theorem di_range2L {tg : Expr} {nm : Pos} {m n : Int} (ha : DE X E a (.int m)) (hb : DE X E b (.int n)) (hbd : (-(2 ^ 62) ≤ m ∧ m < 2 ^ 62) ∧ (-(2 ^ 62) ≤ n ∧ n < 2 ^ 62)) (hg : Gl X "range") (hm : X.mg "range" = none)
    (hs : starEach [a, b] X.env = [(false, eval a X.env), (false, eval b X.env)] := by rfl) (hs2 : starEach [b] X.env = [(false, eval b X.env)] := by rfl) : DI X E tg (.Call (.Name "range" nm) [a, b] [] pos) ((rng m (n - m).toNat).map .int) := nums_rng ▸ di_range2 ha hb hbd hg hm hs hs2
theorem di_enumL {elts : List Expr} {kk : Nat} {tp nm : Pos} (ha : DE X E a (eL f xs)) (hg : Gl X "enumerate") (hm : X.mg "enumerate" = none) (hs : starEach [a] X.env = [(false, eval a X.env)] := by rfl) : DI X E (.Tuple elts kk tp) (.Call (.Name "enumerate" nm) [a] [] pos) ((enumL xs).map (eP .int f)) := enumD_map f xs ▸ di_enum ha hg hm hs
end

/-! ### loops by a function of the turn -/
inductive Go (σ ρ : Type) where
  | nx (s : σ) | bk (s : σ) | rt (r : ρ)
def forG {α σ ρ : Type} (step : σ → α → Go σ ρ) : List α → σ → Go σ ρ
  | [], s => .nx s
  | x :: xs, s => match step s x with
    | .nx s' => forG step xs s'
    | .bk s' => .nx s'
    | .rt r => .rt r
def whileG {σ ρ : Type} (cond : σ → Bool) (step : σ → Go σ ρ) : Nat → σ → Go σ ρ
  | 0, s => .nx s
  | n + 1, s => match cond s with
    | false => .nx s
    | true => match step s with
      | .nx s' => whileG cond step n s'
      | .bk s' => .nx s'
      | .rt r => .rt r
def Out.isRt : Out → Bool
  | .rt _ => true
  | .ex _ _ _ => true
  | .rte _ _ => true
  | .rto _ _ => true
  | _ => false
def bodyP {σ ρ : Type} (env : σ → List Sl) (go : Go σ ρ) (Inv InvN : σ → Prop) (Pr : ρ → Out → Prop) : Out → Prop
  | .nx E => ∃ s', go = .nx s' ∧ Le E (env s') ∧ Inv s'
  | .ct E => ∃ s', go = .nx s' ∧ Le E (env s') ∧ Inv s'
  | .bk E => ∃ s', go = .bk s' ∧ Le E (env s') ∧ InvN s'
  | o => ∃ r, go = .rt r ∧ Pr r o
section
variable {X : Cx} {W : WX} {st : Stmt} {sts rest bod : List Stmt} {E E' : List Sl} {P P' : Out → Prop} {e a b c : Expr} {es : List Expr} {x y z : PyData} {pos : Pos} {t : OT} {p : Bool} {α σ ρ : Type}
theorem bodyP_lp {env : σ → List Sl} {go : Go σ ρ} {Inv InvN : σ → Prop} {Pr : ρ → Out → Prop} {I N : List Sl → Prop} (h : DSs X W bod E (bodyP env go Inv InvN Pr)) (h1 : ∀ s', go = .nx s' → Inv s' → I (env s')) (h2 : ∀ s', go = .bk s' → InvN s' → N (env s')) (h3 : ∀ r o, go = .rt r → o.isRt = true → Pr r o → P o) :
    DSs X W bod E (lp I N P) := by
  refine ⟨fun M L H σ D EI k => h.run M L H σ D EI ⟨fun E' L' H' σ' p s J => ?_, fun E' L' H' σ' p s J => ?_, fun E' L' H' σ' p s J => ?_, fun t v L' H' F p s d hF nF o => ?_, fun C E' L' H' σ' p s J => ?_, fun C fs E' L' H' σ' d gs F p s J => ?_, fun x v E' L' H' σ' p s J rr => ?_, fun u v E' L' H' σ' p s J => ?_⟩⟩
  · obtain ⟨s', q1, q2, q3⟩ := p
    exact k.nx _ L' H' σ' (h1 s' q1 q3) s (J.le q2)
  · obtain ⟨s', q1, q2, q3⟩ := p
    exact k.bk _ L' H' σ' (h2 s' q1 q3) s (J.le q2)
  · obtain ⟨s', q1, q2, q3⟩ := p
    exact k.ct _ L' H' σ' (h1 s' q1 q3) s (J.le q2)
  · obtain ⟨r, q1, q2⟩ := p
    exact k.rt t v L' H' F (h3 r _ q1 rfl q2) s d hF nF o
  · obtain ⟨r, q1, q2⟩ := p
    exact k.ex C E' L' H' σ' (h3 r _ q1 rfl q2) s J
  · obtain ⟨r, q1, q2⟩ := p
    exact k.exd C fs E' L' H' σ' d gs F (h3 r _ q1 rfl q2) s J
  · obtain ⟨r, q1, q2⟩ := p
    exact k.rte x v E' L' H' σ' (h3 r _ q1 rfl q2) s J rr
  · obtain ⟨r, q1, q2⟩ := p
    exact k.rto u v E' L' H' σ' (h3 r _ q1 rfl q2) s J
theorem drop_get {xs : List α} {i : Nat} {a : α} (h : xs[i]? = some a) : xs.drop i = a :: xs.drop (i + 1) := by
  obtain ⟨hi, e⟩ := List.getElem?_eq_some_iff.mp h
  rw [List.drop_eq_getElem_cons hi, e]
theorem ds_forG {tg it : Expr} {f : PyData → List Sl → Option (List Sl)} {items : List α} {ea : α → PyData} (env : σ → List Sl) (step : σ → α → Go σ ρ) (s0 : σ) (Inv : Nat → σ → Prop) (InvN : σ → Prop) (Pr : ρ → Out → Prop) (C : CxF X W) (J : DI X E tg it (items.map ea)) {sl : List Nat} (T : TgR X tg f sl)
    (hE : Le E (env s0)) (h0 : Inv 0 s0)
    (turn : ∀ i a s, items[i]? = some a → Inv i s → ∃ E2, f (ea a) (env s) = some E2 ∧ DSs X W bod E2 (bodyP env (step s a) (Inv (i + 1)) InvN Pr))
    (hn : ∀ s, Inv items.length s → InvN s) (hrt : ∀ r o, forG step items s0 = .rt r → o.isRt = true → Pr r o → P o) (hrest : ∀ s', forG step items s0 = .nx s' → InvN s' → DSs X W rest (env s') P)
    (hf : ∀ v, foldedSetIterable it X.env v = pure v := by intro _; rfl) : DSs X W (.For tg it bod [] pos :: rest) E P := by
  refine ds_seq (Q := fun E' => ∃ s', forG step items s0 = .nx s' ∧ E' = env s' ∧ InvN s') ?_ fun E' ⟨s', h1, h2, h3⟩ => h2 ▸ hrest s' h1 h3
  refine ds_for (fun i E1 => ∃ s, E1 = env s ∧ forG step items s0 = forG step (items.drop i) s ∧ Inv i s) _ C J T hE ⟨s0, rfl, rfl, h0⟩ ?_ ?_ hf
  · rintro i x E1 hx ⟨s, rfl, hs, hi⟩
    rw [List.getElem?_map] at hx
    cases ha : items[i]? with
    | none => rw [ha] at hx; cases hx
    | some a =>
      rw [ha] at hx
      cases Option.some.inj hx
      obtain ⟨E2, h1, h2⟩ := turn i a s ha hi
      rw [drop_get ha] at hs
      refine ⟨E2, h1, bodyP_lp h2 (fun s' q v => ⟨s', rfl, ?_, v⟩) (fun s' q v => ⟨s', ?_, rfl, v⟩) fun r o q w v => hrt r o ?_ w v⟩
      · rw [hs, forG, q]
      · rw [hs, forG, q]
      · rw [hs, forG, q]
  · rintro E1 ⟨s, rfl, hs, hi⟩
    rw [List.length_map] at hi hs
    rw [List.drop_length, forG] at hs
    exact ⟨s, hs, rfl, hn s hi⟩
theorem ds_whileG (env : σ → List Sl) (cond : σ → Bool) (step : σ → Go σ ρ) (μ : σ → Nat) (s0 : σ) (Inv InvN : σ → Prop) (Pr : ρ → Out → Prop) (C : CxF X W)
    (hE : Le E (env s0)) (h0 : Inv s0) (hc : ∀ s, Inv s → DT X (env s) c (cond s))
    (turn : ∀ s, Inv s → cond s = true → DSs X W bod (env s) (bodyP env (step s) (fun s' => Inv s' ∧ μ s' < μ s) InvN Pr))
    (hn : ∀ s, Inv s → cond s = false → InvN s) (hrt : ∀ r o, whileG cond step (μ s0 + 1) s0 = .rt r → o.isRt = true → Pr r o → P o) (hrest : ∀ s', whileG cond step (μ s0 + 1) s0 = .nx s' → InvN s' → DSs X W rest (env s') P) :
    DSs X W (.While c bod [] pos :: rest) E P := by
  refine ds_le hE (ds_seq (Q := fun E' => ∃ s', whileG cond step (μ s0 + 1) s0 = .nx s' ∧ E' = env s' ∧ InvN s') ?_ fun E' ⟨s', h1, h2, h3⟩ => h2 ▸ hrest s' h1 h3)
  refine ds_while (fun n E1 => ∃ s, E1 = env s ∧ whileG cond step (μ s0 + 1) s0 = whileG cond step (n + 1) s ∧ Inv s ∧ μ s ≤ n) _ C (m0 := μ s0) ⟨s0, rfl, rfl, h0, Nat.le_refl _⟩ ?_
  rintro n E1 ⟨s, rfl, hs, hi, hμ⟩
  refine ⟨cond s, hc s hi, fun q => ?_, fun q => ?_⟩
  · have hs2 : whileG cond step (μ s0 + 1) s0 = match step s with
      | .nx s' => whileG cond step n s'
      | .bk s' => .nx s'
      | .rt r => .rt r := by rw [hs, whileG, q]
    refine bodyP_lp (turn s hi q) (fun s' w v => ⟨n - 1, by omega, s', rfl, ?_, v.1, by omega⟩) (fun s' w v => ⟨s', ?_, rfl, v⟩) fun r o w w2 v => hrt r o ?_ w2 v
    · rw [hs2, w, Nat.sub_add_cancel (by omega)]
    · rw [hs2, w]
    · rw [hs2, w]
  · exact ⟨s, by rw [hs, whileG, q], rfl, hn s hi q⟩
end
end D

end

section
set_option Elab.async false
set_option linter.all false
set_option autoImplicit false
set_option maxRecDepth 100000
set_option maxHeartbeats 2000000
namespace D
open PySem L2 PySem.Spec PyProof.Rows

/-! ### list comprehensions -/
theorem wipe_get {σ : L2.St} {j : Nat} : ∀ (vs : List Nat), (wipe σ vs)[j]? = if j ∈ vs then σ[j]?.map (fun _ => none) else σ[j]?
  | [] => by simp [wipe]
  | v :: vs => by
    unfold wipe
    by_cases h : v = j
    · subst h
      rw [if_pos List.mem_cons_self]
      by_cases hl : v < σ.length
      · rw [List.getElem?_set_self (by rw [wipe_length]; exact hl), List.getElem?_eq_getElem hl]
        rfl
      · rw [List.getElem?_eq_none (by rw [List.length_set, wipe_length]; omega), List.getElem?_eq_none (by omega)]
        rfl
    · rw [List.getElem?_set_ne h, wipe_get vs]
      by_cases m : j ∈ vs
      · rw [if_pos m, if_pos (List.mem_cons_of_mem _ m)]
      · rw [if_neg m, if_neg (fun z => (List.mem_cons.mp z).elim (fun q => h q.symm) m)]
theorem wipe_chg {σ σ2 : L2.St} {vs sl : List Nat} (h : Chg sl (wipe σ vs) σ2) (hs : ∀ j ∈ sl, j ∈ vs) : wipe σ2 vs = wipe σ vs := by
  apply List.ext_getElem?
  intro j
  rw [wipe_get, wipe_get]
  by_cases m : j ∈ vs
  · rw [if_pos m, if_pos m]
    have hl := h.len
    rw [wipe_length] at hl
    by_cases q : j < σ.length
    · rw [List.getElem?_eq_getElem q, List.getElem?_eq_getElem (by omega)]
      rfl
    · rw [List.getElem?_eq_none (by omega), List.getElem?_eq_none (by omega)]
  · rw [if_neg m, if_neg m, h.get j fun z => m (hs j z), wipe_get, if_neg m]
def wipeE (E : List Sl) : List Nat → List Sl
  | [] => E
  | v :: vs => (wipeE E vs).set v .no
theorem EnvR.wipe {K : PySem.W.Frag} {M L : List Addr} {H : Hp} {σ : L2.St} {E : List Sl} (h : EnvR K M L H σ E) : ∀ vs : List Nat, EnvR K M L H (wipe σ vs) (wipeE E vs)
  | [] => h
  | v :: vs => (EnvR.wipe h vs).setNo
theorem EnvR.hide {K : PySem.W.Frag} {M L : List Addr} {H H' : Hp} {σ : L2.St} {E : List Sl} {p : Addr} (h : EnvR K M L H σ E) (hp : H p = none) (s : Same H H') (hp' : H' p ≠ none) : EnvR K (p :: M) L H' σ E := by
  obtain ⟨⟨F, hs, nF, hL⟩, dom, dj⟩ := h
  refine ⟨⟨F, hs.mono (fz_mono fun a o n e => ⟨fun z => ?_, s a o e⟩) (fun a ha => ?_), nF, hL⟩, fun a ha => ?_, fun a ha z => ?_⟩
  · rcases List.mem_append.mp z with z | z
    · exact n (List.mem_append_left _ z)
    · rcases List.mem_cons.mp z with z | z
      · rw [z, hp] at e; cases e
      · exact n (List.mem_append_right _ z)
  · obtain ⟨h1, vs, h2, _⟩ := hs.sub a ha
    exact ⟨(List.mem_append.mp h1).elim (fun z => List.mem_append_left _ z) fun z => List.mem_append_right _ (List.mem_cons_of_mem _ z), eq_same s h2⟩
  · rcases List.mem_append.mp ha with z | z
    · exact not_none_same s (dom a (List.mem_append_left _ z))
    · rcases List.mem_cons.mp z with z | z
      · exact z ▸ hp'
      · exact not_none_same s (dom a (List.mem_append_right _ z))
  · rcases List.mem_cons.mp z with z | z
    · exact dom a (List.mem_append_left _ ha) (z ▸ hp)
    · exact dj a ha z
structure DTs (X : Cx) (E : List Sl) (ifs : List Expr) (b : Bool) : Prop where
  ex : ∃ tt, PTs X ifs tt ∧ EvT X.K tt E b
theorem dts_nil {X : Cx} {E : List Sl} : DTs X E [] true := ⟨_, pts_nil, fun M L H σ Q I k => k H (Same.refl H)⟩
theorem dts_one {X : Cx} {E : List Sl} {c : Expr} {b : Bool} (h : DT X E c b) : DTs X E [c] b := by
  obtain ⟨t, h1, h2⟩ := h
  exact ⟨t, pts_one h1, h2⟩
abbrev blkX (X : Cx) (scope : Scope) (s : Shared) (H : Hp) (C : Addr) (cl : List (Str × Addr)) (fp : List Addr) : Cx := X.blk s H scope (compEnvC scope cl C X.env) fp
theorem pe_allE {X : Cx} {e : Expr} : PE X e (fun σ H Q => ∃ te, PE X e te ∧ te σ H Q) := ⟨fun pins s σ H Q I ⟨t, h, q⟩ => h.run pins s σ H Q I q⟩
section
variable {X : Cx} {E : List Sl} {elt tg it : Expr} {ifs : List Expr} {scope : Scope} {own : List (Str × Nat)} {pos : Pos} {α β : Type} {ea : α → PyData} {eb : β → PyData} {items : List α} {f : PyData → List Sl → Option (List Sl)} {sl : List Nat}
/-- what a comprehension's turn is: what it does with an item -/
structure Turn1 (X : Cx) (E : List Sl) (elt tg : Expr) (ifs : List Expr) (scope : Scope) (vs : List Nat) (f : PyData → List Sl → Option (List Sl)) (x : PyData) (r : Option PyData) : Prop where
  ex : ∃ E2 b, f x (wipeE E vs) = some E2 ∧ ∀ s H C cl fp, DTs (blkX X scope s H C cl fp) E2 ifs b ∧ (b = true → ∃ y, r = some y ∧ DE (blkX X scope s H C cl fp) E2 elt y) ∧ (b = false → r = none)
theorem RA.snoc {K : PySem.W.Frag} {H : Hp} {vs : List V} {ds : List PyData} {v : V} {x : PyData} (h : RA K H vs ds) (r : R K H v x) : RA K H (vs ++ [v]) (ds ++ [x]) := h.append (.cons r .nil)
theorem filterMap_take {xs : List α} {h : α → Option PyData} {i : Nat} {x : α} (e : xs[i]? = some x) : (xs.take (i + 1)).filterMap h = (xs.take i).filterMap h ++ (h x).toList := by
  rw [List.take_add_one, e, List.filterMap_append]
  show _ ++ List.filterMap h [x] = _
  cases q : h x with
  | none => simp [q]
  | some y => simp [q]
def lcG (X : Cx) (scope : Scope) (tg : Expr) : TG := fun v σ H Q => ∀ s H' C cl fp, ∃ g, PG (blkX X scope s H' C cl fp) tg g ∧ g v σ H Q
def lcT (X : Cx) (scope : Scope) (ifs : List Expr) : TT := fun σ H Q => ∀ s H' C cl fp, ∃ t, PTs (blkX X scope s H' C cl fp) ifs t ∧ t σ H Q
def lcE (X : Cx) (scope : Scope) (elt : Expr) : TE := fun σ H Q => ∀ s H' C cl fp, ∃ t, PE (blkX X scope s H' C cl fp) elt t ∧ t σ H Q
theorem lcG_ok (s : Shared) (H : Hp) (C : Addr) (cl : List (Str × Addr)) (fp : List Addr) : PG (blkX X scope s H C cl fp) tg (lcG X scope tg) := ⟨fun pins s' σ H' v u Q I r h => by
    obtain ⟨g, g1, g2⟩ := h s H C cl fp
    exact g1.run pins s' σ H' v u Q I r g2⟩
theorem lcT_ok (s : Shared) (H : Hp) (C : Addr) (cl : List (Str × Addr)) (fp : List Addr) : PTs (blkX X scope s H C cl fp) ifs (lcT X scope ifs) := ⟨fun pins s' σ H' Q I h => by
    obtain ⟨g, g1, g2⟩ := h s H C cl fp
    exact g1.run pins s' σ H' Q I g2⟩
theorem lcE_ok (s : Shared) (H : Hp) (C : Addr) (cl : List (Str × Addr)) (fp : List Addr) : PE (blkX X scope s H C cl fp) elt (lcE X scope elt) := ⟨fun pins s' σ H' Q I h => by
    obtain ⟨g, g1, g2⟩ := h s H C cl fp
    exact g1.run pins s' σ H' Q I g2⟩
theorem lc_run {xs : List α} (h : α → Option PyData) (J : DI X E tg it (xs.map ea)) (T : ∀ s H C cl fp, TgR (blkX X scope s H C cl fp) tg f sl) (hsl : ∀ j ∈ sl, j ∈ own.map (·.2)) (hl : xs.length < sizeLine)
    (turn : ∀ x ∈ xs, Turn1 X E elt tg ifs scope (own.map (·.2)) f (ea x) (h x)) {M L : List Addr} {H : Hp} {σ : L2.St} {Q : VK} (EI : EnvR X.K M L H σ E)
    (k : ∀ v H' F, Same H H' → F.Nodup → (∀ a ∈ F, H a = none) → Own X.K (F ++ (L ++ M)) H' v (.l ((xs.filterMap h).map .d)) F → Q v H') : ∃ wi, PI X tg it wi ∧ tLc wi (lcG X scope tg) (lcT X scope ifs) (lcE X scope elt) (own.map (·.2)) σ H Q := by
  obtain ⟨wi, w1, w2⟩ := J.run M L H σ (fun J H1 => ∀ D, H1 D = none → ∃ W : Nat → Nat → Hp → Prop, (∃ m, W 0 m (upd H1 D (.lst []))) ∧ ∀ i m H, W i m H →
      (J.stop i H ∧ Q (.ref D) H) ∨ (J.go i H ∧ ∃ Nx : Hp → Prop, (∀ H', Nx H' → ∃ m', m' < m ∧ W (i + 1) m' H') ∧ ∀ x H', J.yld i H x H' → lcG X scope tg x (wipe σ (own.map (·.2))) H' fun σ2 H2 => wipe σ2 (own.map (·.2)) = wipe σ (own.map (·.2)) ∧ lcT X scope ifs σ2 H2 fun b H3 =>
        if b = true then lcE X scope elt σ2 H3 fun y H4 => ∃ acc, H4 D = some (.lst acc) ∧ acc.length < sizeLine ∧ Nx (upd H4 D (.lst (acc ++ [y]))) else Nx H3)) EI (fun J H1 s1 w D hD => by
    obtain ⟨G, Y, wk, hG, hY⟩ := w
    have sD : Same H1 (upd H1 D (.lst [])) := same_new hD
    have I1 := EI.same s1
    have nD : D ∉ L ++ M := fun z => I1.dom D z hD
    -- what a later heap is
    let Pv : Nat → Hp → Prop := fun i H' => (∀ a o, a ≠ D → H1 a = some o → H' a = some o) ∧ ∃ acc, H' D = some (.lst acc) ∧ RA X.K (fz (L ++ (D :: M)) H') acc ((xs.take i).filterMap h)
    have eP : ∀ i H', Pv i H' → EnvR X.K (D :: M) L H' σ E ∧ Same (fz (L ++ M) H1) (fz (L ++ (D :: M)) H') := fun i H' ⟨p1, acc, p2, _⟩ => by
      have s' : Same H1 H' := fun a o e => p1 a o (fun z => by rw [z, hD] at e; cases e) e
      refine ⟨I1.hide hD s' (by rw [p2]; exact fun z => by cases z), fz_mono fun a o n e => ⟨fun z => ?_, s' a o e⟩⟩
      rcases List.mem_append.mp z with z | z
      · exact n (List.mem_append_left _ z)
      · rcases List.mem_cons.mp z with z | z
        · rw [z, hD] at e; cases e
        · exact n (List.mem_append_right _ z)
    refine lc_it wk Pv ⟨fun a o n e => by rw [upd_ne n]; exact e, [], upd_same, .nil⟩ (fun i H' _ p => hG _ _ (eP i H' p).2) ?_ ?_
    · intro i v H' H2 hi p y
      obtain ⟨eI, sm⟩ := eP i H' p
      obtain ⟨s2, x', hx', rx⟩ := hY _ _ i v H2 sm eI.dom hi y
      obtain ⟨x, hx, rfl⟩ : ∃ x, xs[i]? = some x ∧ ea x = x' := by
        rw [List.getElem?_map] at hx'
        cases q : xs[i]? with
        | none => rw [q] at hx'; cases hx'
        | some a => rw [q] at hx'; exact ⟨a, rfl, Option.some.inj hx'⟩
      obtain ⟨E2, b, f2, tn⟩ := (turn x (List.mem_of_getElem? hx)).ex
      obtain ⟨p1, acc, p2, p3⟩ := p
      intro s H0 C cl fp
      obtain ⟨g, g1, g2⟩ := (T s H0 C cl fp).ex
      refine ⟨g, g1, g2 (D :: M) L H2 _ v (ea x) _ E2 _ ((eI.same s2).wipe _) rx f2 fun σ2 e2 ch => ⟨wipe_chg ch hsl, ?_⟩⟩
      intro s H0 C cl fp
      obtain ⟨⟨tt, t1, t2⟩, hT, hF⟩ := tn s H0 C cl fp
      refine ⟨tt, t1, t2 (D :: M) L H2 σ2 _ e2 fun H3 s3 => ?_⟩
      have q3 : ∀ a o, a ≠ D → H1 a = some o → H3 a = some o := fun a o n e => s3 a o (s2 a o (p1 a o n e))
      have d3 : H3 D = some (.lst acc) := s3 _ _ (s2 _ _ p2)
      have r3 : RA X.K (fz (L ++ (D :: M)) H3) acc ((xs.take i).filterMap h) := RA.same (fz_same (s2.trans s3)) _ _ p3
      cases b with
      | false =>
        refine iteF ⟨q3, acc, d3, ?_⟩
        rw [filterMap_take hx, hF rfl]
        simpa using r3
      | true =>
        refine iteT fun s H0 C cl fp => ?_
        obtain ⟨y, hy, te, b1, b2⟩ := (tn s H0 C cl fp).2.1 rfl
        refine ⟨te, b1, b2 (D :: M) L H3 σ2 _ (e2.same s3) fun w H4 s4 r4 => ⟨acc, s4 _ _ d3, ?_, fun a o n e => by rw [upd_ne n]; exact s4 a o (q3 a o n e), acc ++ [w], upd_same, ?_⟩⟩
        · rw [p3.length]
          exact Nat.lt_of_le_of_lt (Nat.le_trans (List.length_filterMap_le _ _) (by rw [List.length_take]; exact Nat.min_le_right _ _)) hl
        · rw [filterMap_take hx, hy, fz_upd (List.mem_append_right _ List.mem_cons_self)]
          exact RA.snoc (RA.same (fz_same s4) _ _ r3) r4
    · rintro H' ⟨p1, acc, p2, p3⟩
      have s' : Same H H' := fun a o e => p1 a o (fun z => by rw [z] at e; rw [s1 _ _ e] at hD; cases hD) (s1 a o e)
      refine k (.ref D) H' [D] s' (by simp) (fun a ha => by cases List.mem_singleton.mp ha; exact s1.free hD) ?_
      rw [List.length_map, List.take_length] at p3
      refine .l List.mem_cons_self p2 (Owns.ofRA (RA.same (fz_mono fun a o n e => ⟨fun z => n ?_, e⟩) _ _ p3))
      rcases List.mem_append.mp z with z | z
      · rw [List.mem_singleton.mp z]; exact List.mem_append_right _ List.mem_cons_self
      · rcases List.mem_append.mp z with z | z
        · exact List.mem_append_left _ z
        · exact List.mem_append_right _ (List.mem_cons_of_mem _ z))
  exact ⟨wi, w1, w2⟩
theorem dn_lc0 {xs : List α} (h : α → Option PyData) (hc : X.calm = true) (hN : X.N.Nodup) (J : DI X E tg it (xs.map ea)) (ok : BlkOk X.N X.env.scope scope own) (T : ∀ s H C cl fp, TgR (blkX X scope s H C cl fp) tg f sl) (hsl : ∀ j ∈ sl, j ∈ own.map (·.2)) (hl : xs.length < sizeLine)
    (turn : ∀ x ∈ xs, Turn1 X E elt tg ifs scope (own.map (·.2)) f (ea x) (h x)) (hs : ∀ x, foldedSetIterable it X.env x = pure x := by intro _; rfl) : DN X E (.ListComp elt [⟨tg, it, ifs, 0⟩] scope pos) (.l ((xs.filterMap h).map .d)) := by
  refine ⟨_, pe_allE, fun M L H σ Q EI k => ?_⟩
  obtain ⟨wi, w1, w2⟩ := lc_run h J T hsl hl turn EI k
  exact ⟨_, pe_lc hc hN w1 ok lcG_ok lcT_ok lcE_ok hs, w2⟩
/-- y = [..] -/
theorem ds_setLc0 {xs : List α} (h : α → Option PyData) {i : Nat} {n : Str} {py spos : Pos} {W : WX} {P : Out → Prop} {E' : List Sl} (N : LocN X i n) (hyl : X.env.scope.names.lookup n = some .local) (hsw : swapsWith (.ListComp elt [⟨tg, it, ifs, 0⟩] scope pos) (some (.Name n py)) spos.line X.env = pure true)
    (hc : X.calm = true) (J : DI X E tg it (xs.map ea)) (ok : BlkOk X.N X.env.scope scope own) (T : ∀ s H C cl fp, TgR (blkX X scope s H C cl fp) tg f sl) (hsl : ∀ j ∈ sl, j ∈ own.map (·.2)) (hl : xs.length < sizeLine)
    (turn : ∀ x ∈ xs, Turn1 X E elt tg ifs scope (own.map (·.2)) f (ea x) (h x)) (hE : E.set i (.o (.l ((xs.filterMap h).map .d))) = E') (hi : Nat.ble (i + 1) E.length = true) (hs : ∀ x, foldedSetIterable it X.env x = pure x) : DS X W (.Assign [.Name n py] (.ListComp elt [⟨tg, it, ifs, 0⟩] scope pos) spos) E (th (· = E') P) := by
  refine ⟨fun M L H σ D EI k => ?_⟩
  obtain ⟨wi, w1, w2⟩ := lc_run (Q := fun x H1 => gName i x σ H1 D.nx) h J T hsl hl turn EI fun v H' F s1 nF hF o => k.nx E' (F ++ L) H' _ rfl (Step.more s1 hF) (hE ▸ EI.setN (Nat.le_of_ble_eq_true hi) s1 hF nF o)
  exact ⟨_, ps_setLc hc N.nd N.ix hyl hsw w1 ok lcG_ok lcT_ok lcE_ok hs, w2⟩
/-- [elt for x in xs] -/
theorem dn_lc (g : α → β) (hc : X.calm = true) (hN : X.N.Nodup) (J : DI X E tg it (items.map ea)) (ok : BlkOk X.N X.env.scope scope own) (T : ∀ s H C cl fp, TgR (blkX X scope s H C cl fp) tg f sl) (hl : items.length < sizeLine)
    (turn : ∀ x ∈ items, ∃ E2, f (ea x) (wipeE E (own.map (·.2))) = some E2 ∧ ∀ s H C cl fp, DE (blkX X scope s H C cl fp) E2 elt (eb (g x))) (hsl : ∀ j ∈ sl, j ∈ own.map (·.2) := by decide) (hs : ∀ x, foldedSetIterable it X.env x = pure x := by intro _; rfl) : DN X E (.ListComp elt [⟨tg, it, [], 0⟩] scope pos) (oL eb (items.map g)) := by
  refine (dn_lc0 (fun a => some (eb (g a))) hc hN J ok T hsl hl (fun x hx => ?_) hs).cast ?_
  · obtain ⟨E2, h1, h2⟩ := turn x hx
    exact ⟨E2, true, h1, fun s H C cl fp => ⟨dts_nil, fun _ => ⟨_, rfl, h2 s H C cl fp⟩, fun q => by cases q⟩⟩
  · show OT.l _ = OT.l _
    congr 1
    congr 1
    rw [List.map_map, ← List.filterMap_eq_map]
    rfl
/-- [elt for x in xs if c] -/
theorem dn_lcIf {c : Expr} (p : α → Bool) (g : α → β) (hc : X.calm = true) (hN : X.N.Nodup) (J : DI X E tg it (items.map ea)) (ok : BlkOk X.N X.env.scope scope own) (T : ∀ s H C cl fp, TgR (blkX X scope s H C cl fp) tg f sl) (hl : items.length < sizeLine)
    (turn : ∀ x ∈ items, ∃ E2, f (ea x) (wipeE E (own.map (·.2))) = some E2 ∧ ∀ s H C cl fp, DT (blkX X scope s H C cl fp) E2 c (p x) ∧ (p x = true → DE (blkX X scope s H C cl fp) E2 elt (eb (g x)))) (hsl : ∀ j ∈ sl, j ∈ own.map (·.2) := by decide) (hs : ∀ x, foldedSetIterable it X.env x = pure x := by intro _; rfl) : DN X E (.ListComp elt [⟨tg, it, [c], 0⟩] scope pos) (oL eb ((items.filter p).map g)) := by
  refine (dn_lc0 (fun a => bif p a then some (eb (g a)) else none) hc hN J ok T hsl hl (fun x hx => ?_) hs).cast ?_
  · obtain ⟨E2, h1, h2⟩ := turn x hx
    refine ⟨E2, p x, h1, fun s H C cl fp => ⟨dts_one (h2 s H C cl fp).1, fun q => ⟨_, by rw [q]; rfl, (h2 s H C cl fp).2 q⟩, fun q => by rw [q]; rfl⟩⟩
  · congr 1
    rw [List.map_map]
    clear turn hl hs J
    induction items with
    | nil => rfl
    | cons a l ih =>
      cases q : p a with
      | true => simp [q, ih]
      | false => simp [q, ih]

theorem fm_some (g : α → β) (l : List α) : OT.l ((l.filterMap fun a => some (eb (g a))).map .d) = oL eb (l.map g) := by
  show OT.l _ = OT.l _
  congr 1
  congr 1
  rw [List.map_map, ← List.filterMap_eq_map]
  rfl
theorem ds_setLc (g : α → β) {i : Nat} {n : Str} {py spos : Pos} {W : WX} {P : Out → Prop} {E' : List Sl} (N : LocN X i n) (hyl : X.env.scope.names.lookup n = some .local) (hsw : swapsWith (.ListComp elt [⟨tg, it, [], 0⟩] scope pos) (some (.Name n py)) spos.line X.env = pure true)
    (hc : X.calm = true) (J : DI X E tg it (items.map ea)) (ok : BlkOk X.N X.env.scope scope own) (T : ∀ s H C cl fp, TgR (blkX X scope s H C cl fp) tg f sl) (hl : items.length < sizeLine)
    (turn : ∀ x ∈ items, ∃ E2, f (ea x) (wipeE E (own.map (·.2))) = some E2 ∧ ∀ s H C cl fp, DE (blkX X scope s H C cl fp) E2 elt (eb (g x))) (hE : E.set i (.o (oL eb (items.map g))) = E' := by rfl) (hsl : ∀ j ∈ sl, j ∈ own.map (·.2) := by decide) (hi : Nat.ble (i + 1) E.length = true := by rfl) (hs : ∀ x, foldedSetIterable it X.env x = pure x := by intro _; rfl) :
    DS X W (.Assign [.Name n py] (.ListComp elt [⟨tg, it, [], 0⟩] scope pos) spos) E (th (· = E') P) :=
  ds_setLc0 (fun a => some (eb (g a))) N hyl hsw hc J ok T hsl hl (fun x hx => by
    obtain ⟨E2, h1, h2⟩ := turn x hx
    exact ⟨E2, true, h1, fun s H C cl fp => ⟨dts_nil, fun _ => ⟨_, rfl, h2 s H C cl fp⟩, fun q => by cases q⟩⟩) (by rw [fm_some]; exact hE) hi hs
end
/-! ### lists that are handed on: frozen, borrowed -/
theorem Slots.freeze {K : PySem.W.Frag} {W : List Addr} {H : Hp} {σ : L2.St} {E : List Sl} {F : List Addr} (h : Slots K W H σ E F) : F.Nodup → ∀ (i : Nat) (t : OT), E[i]? = some (.o t) → ∃ G : List Addr, (∀ a ∈ G, a ∈ F) ∧ ∀ W' : List Addr, (∀ a o, a ∉ W → H a = some o → a ∉ W') → (∀ a ∈ G, a ∉ W') → (∀ a ∈ F, a ∉ G → a ∈ W') →
    ∃ F', Slots K W' H σ (E.set i (.o (.d t.dat))) F' ∧ F'.Nodup ∧ ∀ a ∈ F', a ∈ F ∧ a ∉ G := by
  induction h with
  | nil => intro _ i t e; simp at e
  | no hs ih =>
    intro nF i t e
    cases i with
    | zero => simp at e
    | succ i =>
      obtain ⟨G, g1, g2⟩ := ih nF i t (by simpa using e)
      refine ⟨G, g1, fun W' h1 h2 h3 => ?_⟩
      obtain ⟨F', k1, k2, k3⟩ := g2 W' h1 h2 h3
      exact ⟨F', .no k1, k2, k3⟩
  | raw hs ih =>
    intro nF i t e
    cases i with
    | zero => simp at e
    | succ i =>
      obtain ⟨G, g1, g2⟩ := ih nF i t (by simpa using e)
      refine ⟨G, g1, fun W' h1 h2 h3 => ?_⟩
      obtain ⟨F', k1, k2, k3⟩ := g2 W' h1 h2 h3
      exact ⟨F', .raw k1, k2, k3⟩
  | fx r hs ih =>
    intro nF i t e
    cases i with
    | zero => simp at e
    | succ i =>
      obtain ⟨G, g1, g2⟩ := ih nF i t (by simpa using e)
      refine ⟨G, g1, fun W' h1 h2 h3 => ?_⟩
      obtain ⟨F', k1, k2, k3⟩ := g2 W' h1 h2 h3
      exact ⟨F', .fx (R.same (fz_mono fun a o n q => ⟨h1 a o n q, q⟩) _ _ r) k1, k2, k3⟩
  | @o v1 t1 G1 σ1 E1 F1 ho hs ih =>
    intro nF i t e
    obtain ⟨n1, n2, n3⟩ := List.nodup_append.mp nF
    cases i with
    | zero =>
      cases Option.some.inj e
      refine ⟨G1, fun a ha => List.mem_append_left _ ha, fun W' h1 h2 h3 => ⟨[] ++ F1, .o (.d (Own.rd _ _ _ ho (fun a o n q => ⟨h1 a o n q, q⟩) fun a ha => ⟨h2 a ha, rfl⟩)) (hs.mono (fz_mono fun a o n q => ⟨h1 a o n q, q⟩) fun a ha => ⟨h3 a (List.mem_append_right _ ha) fun z => n3 a z a ha rfl, rfl⟩), n2, fun a ha => ⟨List.mem_append_right _ ha, fun z => n3 a z a ha rfl⟩⟩⟩
    | succ i =>
      obtain ⟨G, g1, g2⟩ := ih n2 i t (by simpa using e)
      refine ⟨G, fun a ha => List.mem_append_right _ (g1 a ha), fun W' h1 h2 h3 => ?_⟩
      obtain ⟨F', k1, k2, k3⟩ := g2 W' h1 h2 (fun a ha n => h3 a (List.mem_append_right _ ha) n)
      have nG : ∀ a ∈ G1, a ∉ G := fun a ha z => n3 a ha a (g1 a z) rfl
      refine ⟨_, .o (Own.mono (fz_mono fun a o n q => ⟨h1 a o n q, q⟩) _ _ _ (fun a ha => ⟨h3 a (List.mem_append_left _ ha) (nG a ha), rfl⟩) ho) k1, List.nodup_append.mpr ⟨n1, k2, fun a ha b hb q => n3 a ha b (k3 b hb).1 q⟩, fun a ha => ?_⟩
      rcases List.mem_append.mp ha with z | z
      · exact ⟨List.mem_append_left _ z, nG a z⟩
      · exact ⟨List.mem_append_right _ (k3 a z).1, (k3 a z).2⟩
theorem EnvR.freeze {K : PySem.W.Frag} {M L : List Addr} {H : Hp} {σ : L2.St} {E : List Sl} {i : Nat} {t : OT} (h : EnvR K M L H σ E) (e : E[i]? = some (.o t)) : ∃ L', EnvR K M L' H σ (E.set i (.o (.d t.dat))) ∧ Step L H L' H ∧ (∀ a ∈ L', a ∈ L) ∧ ∀ a ∈ L, a ∉ L' → ∃ o, H a = some o ∧ OwO o := by
  obtain ⟨⟨F, hs, nF, hL⟩, dom, dj⟩ := h
  obtain ⟨G, g1, g2⟩ := hs.freeze nF i t e
  let L' := L.filter fun a => decide (a ∉ G)
  have hL' : ∀ a, a ∈ L' ↔ a ∈ L ∧ a ∉ G := fun a => by simp [L']
  obtain ⟨F', k1, k2, k3⟩ := g2 (L' ++ M) (fun a o n _ z => n ((List.mem_append.mp z).elim (fun q => List.mem_append_left _ ((hL' a).mp q).1) fun q => List.mem_append_right _ q))
    (fun a ha z => (List.mem_append.mp z).elim (fun q => ((hL' a).mp q).2 ha) fun q => dj a (hL a (g1 a ha)) q) (fun a ha n => List.mem_append_left _ ((hL' a).mpr ⟨hL a ha, n⟩))
  refine ⟨L', ⟨⟨F', k1, k2, fun a ha => (hL' a).mpr ⟨hL a (k3 a ha).1, (k3 a ha).2⟩⟩, fun a ha => dom a ((List.mem_append.mp ha).elim (fun q => List.mem_append_left _ ((hL' a).mp q).1) fun q => List.mem_append_right _ q), fun a ha => dj a ((hL' a).mp ha).1⟩, ⟨fun a o _ q => q, fun a ha => .inl ((hL' a).mp ha).1, fun a q => q⟩, fun a ha => ((hL' a).mp ha).1, fun a ha n => ?_⟩
  have hG : a ∈ G := Classical.byContradiction fun z => n ((hL' a).mpr ⟨ha, z⟩)
  exact (hs.sub a (g1 a hG)).2
theorem ds_freeze {X : Cx} {W : WX} {sts : List Stmt} {E E' : List Sl} {P : Out → Prop} (i : Nat) {t : OT} (e : E[i]? = some (.o t)) (hE : E.set i (.o (.d t.dat)) = E') (h : DSs X W sts E' P) : DSs X W sts E P := by
  subst hE
  refine ⟨fun M L H σ D I k => ?_⟩
  obtain ⟨L', I', s, _⟩ := I.freeze e
  exact h.run M L' H σ D I' (k.step s)
mutual
/-- no list within -/
def flat : PyData → Bool
  | .list _ => false
  | .dict _ => false
  | .tuple ds => flats ds
  | _ => true
def flats : List PyData → Bool
  | [] => true
  | d :: ds => flat d && flats ds
end
mutual
theorem R.flat {K : PySem.W.Frag} {W W' : List Addr} {H : Hp} (h : ∀ a o, a ∉ W' → H a = some o → a ∉ W ∨ OwO o) : ∀ (d : PyData) (v : V), flat d = true → R K (fz W' H) v d → R K (fz W H) v d
  | .none, _, _, r => by cases r; exact .non
  | .bool b, _, _, r => by cases r; exact .bl b
  | .int i, _, _, r => by cases r; exact .int i
  | .str x, _, _, r => by cases r; exact .str x
  | .list ds, _, n, r => by simp [D.flat] at n
  | .dict ds, _, n, r => by simp [D.flat] at n
  | .tuple ds, _, n, r => by
    cases r with
    | tup hs ha =>
      refine .tup ?_ (RA.flat h ds _ (by simpa [D.flat] using n) ha)
      rcases hs with (q | ⟨o, q⟩) | q
      · obtain ⟨n1, q1⟩ := fz_some q
        rcases h _ _ n1 q1 with z | ⟨xs, z⟩ | ⟨C, dx, fs, z⟩
        · exact .inl (.inl (by rw [fz_of z]; exact q1))
        · cases z
        · cases z
      · obtain ⟨n1, q1⟩ := fz_some q
        rcases h _ _ n1 q1 with z | ⟨xs, z⟩ | ⟨C, dx, fs, z⟩
        · exact .inl (.inr ⟨o, by rw [fz_of z]; exact q1⟩)
        · cases z
        · cases z
      · exact .inr q
theorem RA.flat {K : PySem.W.Frag} {W W' : List Addr} {H : Hp} (h : ∀ a o, a ∉ W' → H a = some o → a ∉ W ∨ OwO o) : ∀ (ds : List PyData) (vs : List V), flats ds = true → RA K (fz W' H) vs ds → RA K (fz W H) vs ds
  | [], _, _, r => by cases r; exact .nil
  | d :: ds, _, n, r => by
    have n' : D.flat d = true ∧ flats ds = true := by simpa [flats] using n
    cases r with
    | cons r1 r2 => exact .cons (R.flat h d _ n'.1 r1) (RA.flat h ds _ n'.2 r2)
end
section
variable {X : Cx} {E E' : List Sl} {e : Expr} {x : PyData} {xs : List PyData} {t : OT} {b : Bool}
theorem flat_back {K : PySem.W.Frag} {L L' M : List Addr} {H H' : Hp} (s : Same H H') (h1 : ∀ a ∈ L', a ∈ L) (h2 : ∀ a ∈ L, a ∉ L' → ∃ o, H a = some o ∧ OwO o) : ∀ a o, a ∉ L' ++ M → H' a = some o → a ∉ L ++ M ∨ OwO o := fun a o n q => by
  by_cases z : a ∈ L
  · obtain ⟨xs, e, w⟩ := h2 a z fun m => n (List.mem_append_left _ m)
    rw [s _ _ e] at q
    exact .inr ((Option.some.inj q) ▸ w)
  · exact .inl fun m => (List.mem_append.mp m).elim z fun m => n (List.mem_append_right _ m)
theorem dt_borrow (i : Nat) (g : E[i]? = some (.o t)) (hE : E.set i (.o (.d t.dat)) = E') (h : DT X E' e b) : DT X E e b := by
  obtain ⟨te, e1, e2⟩ := h
  subst hE
  refine ⟨te, e1, fun M L H σ Q I k => ?_⟩
  obtain ⟨L', I', _, h1, h2⟩ := I.freeze g
  exact e2 M L' H σ Q I' fun H' s => k H' s
end
section
variable {X : Cx} {W : WX} {sts : List Stmt} {E : List Sl} {P : Out → Prop} {e : Expr} {x : PyData} {b : Bool} {α β : Type} {f : α → PyData} {g : β → PyData} {xs : List α} {ys : List β}
theorem ds_freezeL (i : Nat) {E' : List Sl} (hg : E[i]? = some (.o (oL f xs))) (hE : E.set i (.o (.d (eL f xs))) = E') (h : DSs X W sts E' P) : DSs X W sts E P := ds_freeze i hg (by rw [dat_oL]; exact hE) h
end
end D

end

section
set_option Elab.async false
set_option linter.all false
set_option autoImplicit false
set_option maxRecDepth 100000
set_option maxHeartbeats 2000000
namespace D
open PySem L2 PySem.Spec PyProof.Rows

theorem oL_snoc {α : Type} {f : α → PyData} {xs : List α} {v : α} : oL f (xs ++ [v]) = .l ((xs.map f).map .d ++ [.d (f v)]) := by
  show OT.l _ = OT.l _
  congr 1
  simp
/-! ### places of own lists -/
theorem Owns.setD {K : PySem.W.Frag} {W : List Addr} {H : Hp} {v : V} {x : PyData} (r : R K (fz W H) v x) : ∀ {ts : List OT} {vs : List V} {F : List Addr} (j : Nat), Owns K W H vs ts F → F.Nodup → ∃ G, Owns K W H (vs.set j v) (ts.set j (.d x)) G ∧ G.Nodup ∧ ∀ a ∈ G, a ∈ F
  | [], _, _, j, h, n => by cases h; exact ⟨[], .nil, n, fun a ha => ha⟩
  | t :: ts, _, _, 0, h, n => by
    cases h with
    | cons h1 h2 => exact ⟨_, .cons (.d r) h2, by simpa using (List.nodup_append.mp n).2.1, fun a ha => List.mem_append_right _ (by simpa using ha)⟩
  | t :: ts, _, _, j + 1, h, n => by
    cases h with
    | cons h1 h2 =>
      obtain ⟨n1, n2, n3⟩ := List.nodup_append.mp n
      obtain ⟨G, g1, g2, g3⟩ := Owns.setD r j h2 n2
      exact ⟨_, .cons h1 g1, List.nodup_append.mpr ⟨n1, g2, fun a ha b hb e => n3 a ha b (g3 b hb) e⟩, fun a ha => (List.mem_append.mp ha).elim (fun q => List.mem_append_left _ q) fun q => List.mem_append_right _ (g3 a q)⟩
theorem Owns.front {K : PySem.W.Frag} {W : List Addr} {H : Hp} : ∀ {ts : List OT} {vs : List V} {F : List Addr}, Owns K W H vs ts F → F.Nodup → ∃ G, Owns K W H vs.dropLast ts.dropLast G ∧ G.Nodup ∧ ∀ a ∈ G, a ∈ F
  | [], _, _, h, n => by cases h; exact ⟨[], .nil, n, fun a ha => ha⟩
  | [t], _, _, h, n => by
    cases h with
    | cons h1 h2 => cases h2; exact ⟨[], .nil, List.nodup_nil, fun a ha => by cases ha⟩
  | t :: u :: ts, _, _, h, n => by
    cases h with
    | cons h1 h2 =>
      obtain ⟨n1, n2, n3⟩ := List.nodup_append.mp n
      obtain ⟨G, g1, g2, g3⟩ := Owns.front h2 n2
      cases h2 with
      | cons h3 h4 => exact ⟨_, .cons h1 g1, List.nodup_append.mpr ⟨n1, g2, fun a ha b hb e => n3 a ha b (g3 b hb) e⟩, fun a ha => (List.mem_append.mp ha).elim (fun q => List.mem_append_left _ q) fun q => List.mem_append_right _ (g3 a q)⟩
/-- the place that i means among n -/
def ixD (n : Nat) (i : Int) : Nat := (ixN n i).getD 0
theorem ixN_ok {n : Nat} {i : Int} (h : inR n i) : ixN n i = some (ixD n i) := by
  unfold ixD ixN
  obtain ⟨h1, h2⟩ := h
  by_cases h0 : 0 ≤ i
  · rw [if_pos h0, if_pos h2]; rfl
  · rw [if_neg h0, if_pos h1]; rfl
theorem ixD_nat {n : Nat} {i : Int} (h0 : 0 ≤ i) (h : i < n) : ixD n i = i.toNat := by
  unfold ixD ixN
  rw [if_pos h0, if_pos h]
  rfl
/-- xs with v at i -/
def sx {α : Type} (xs : List α) (i : Int) (v : α) : List α := xs.set (ixD xs.length i) v
theorem sx_len {α : Type} {xs : List α} {i : Int} {v : α} : (sx xs i v).length = xs.length := List.length_set ..
section
variable {X : Cx} {W : WX} {st : Stmt} {sts rest bod : List Stmt} {E E' : List Sl} {P P' : Out → Prop} {e a b c : Expr} {es : List Expr} {x y z : PyData} {pos : Pos} {t : OT} {p : Bool} {α β : Type} {f : α → PyData} {g : β → PyData} {xs : List α} {i j : Int}
/-- xs.append(e), the items of one kind -/
theorem ds_appendL {k : Nat} {v : α} {nx : Str} {ap cp np : Pos} (hv : ∀ pos, PE X (.Name nx pos) (tVar k)) (he : DE X E e (f v)) (hg : E[k]? = some (.o (oL f xs))) (hl : xs.length < sizeLine) (hE : E.set k (.o (oL f (xs ++ [v]))) = E' := by rfl)
    (hbase : attributeBase (.Name nx np) "append" X.env (eval (.Name nx np) X.env) = eval (.Name nx np) X.env := by rfl)
    (hfew : ((backTo cp (starEach [e] X.env)).all (fun x => !x.1) && (backToKw cp (keywordEach [] X.env)).all (fun x => x.1.isSome) && decide ([e].length + ([] : List Keyword).length + (if ([] : List Keyword).isEmpty then 0 else 1) < 30)) = true := by rfl)
    (hline : (ap.endLine == cp.line) = true := by rfl) (hs : starEach [e] X.env = (false, eval e X.env) :: starEach [] X.env := by rfl) (hplain : (backTo cp (starEach [] X.env)).any (·.1) = false := by rfl)
    (hsw : swapsWith (.Call (.Attribute (.Name nx np) "append" ap) [e] [] cp) none pos.line X.env = pure false := by rfl) :
    DS X W (.Expr (.Call (.Attribute (.Name nx np) "append" ap) [e] [] cp) pos) E (th (· = E') P) :=
  ds_append hv he hg (by simpa using hl) (by rw [← hE, oL_snoc]) hbase hfew hline hs hplain hsw
/-- xs[i] = e -/
theorem ds_setix {k : Nat} {v : α} {nx : Str} {np sp : Pos} (hv : ∀ pos, PE X (.Name nx pos) (tVar k)) (he : DE X E e (f v)) (hi : DE X E b (.int i)) (hg : E[k]? = some (.o (oL f xs))) (h : inR xs.length i) (hE : E.set k (.o (oL f (sx xs i v))) = E' := by rfl)
    (ha : ∀ v, assign (.Subscript (.Name nx np) b sp) X.env v = (do
      let ov ← holding [v] (eval (.Name nx np) X.env)
      let iv ← holding [v, ov] (eval b X.env)
      standAt sp
      holding [v, ov, iv] (setItem ov iv v)
      release [v, ov, iv] []) := by intro _; rfl)
    (hs : swapsWithSole [.Subscript (.Name nx np) b sp] e pos.line X.env = pure false := by rfl) (hw : swappedStores [.Subscript (.Name nx np) b sp] e X.env = pure none := by rfl) (h1 : (assignEach [.Subscript (.Name nx np) b sp] X.env).map (·.2) = [assign (.Subscript (.Name nx np) b sp) X.env] := by rfl) :
    DS X W (.Assign [.Subscript (.Name nx np) b sp] e pos) E (th (· = E') P) := by
  obtain ⟨te, e1, e2⟩ := he
  obtain ⟨ti, i1, i2⟩ := hi
  refine ⟨fun M L H σ D I kk => ⟨_, ps_asg e1 (pg_sub (hv _) i1 set_list ha) hs hw h1, e2 M L H σ _ I fun w H1 s1 r1 => ?_⟩⟩
  have I1 := I.same s1
  obtain ⟨p, vs, G, q1, q2, q3, _⟩ := I1.mut hg
  refine ⟨.ref p, q1, i2 M L H1 σ _ I1 fun u H2 s2 r2 => ?_⟩
  cases r2
  have I2 := I1.same s2
  obtain ⟨p', vs', G', q1', q2', q3', q4', q5', q6'⟩ := I2.mut hg
  have ep : p = p' := by
    have z := q1.symm.trans q1'
    injection z with z
    injection z with z
    injection z
  subst ep
  obtain ⟨G2, g1, g2, g3⟩ := q3'.setD (R.same (fz_same s2) _ _ r1) (ixD xs.length i) q4'
  have hl : vs'.length = xs.length := by rw [q3'.length]; simp
  obtain ⟨w1, w2⟩ := q6' _ _ G2 g1 g2 g3
  refine ⟨p, vs', i, ixD xs.length i, rfl, rfl, q2', by rw [hl]; exact ixN_ok h, kk.nx E' L _ σ rfl (((Step.same s1).trans (Step.same s2)).trans w2) ?_⟩
  rw [← hE]
  have e : oL f (sx xs i v) = .l (((xs.map f).map .d).set (ixD xs.length i) (.d (f v))) := by
    show OT.l _ = OT.l _
    congr 1
    unfold sx
    rw [List.map_set, List.map_set]
  rw [e]
  exact w1
theorem Owns.atD {K : PySem.W.Frag} {W : List Addr} {H : Hp} {vs : List V} {F : List Addr} {xs : List PyData} {i : Int} {x : PyData} (h : Owns K W H vs (xs.map .d) F) (e : atI xs i = some x) : ∃ v, atI vs i = some v ∧ R K (fz W H) v x := by
  obtain ⟨v, G, h1, h2, _⟩ := h.at (at_map e)
  cases h2 with
  | d r => exact ⟨v, h1, r⟩
/-- x += e -/
theorem ds_aug {op : Operator} {fo : Int → Int → Int} (ho : PIp X op (ipI fo)) {k : Nat} {u v : Int} {n : Str} {p2 : Pos} (N : LocN X k n) (he : DE X E e (.int v)) (hg : E[k]? = some (.o (.d (.int u)))) (hE : E.set k (.o (.d (.int (fo u v)))) = E' := by rfl) (hi : Nat.ble (k + 1) E.length = true := by rfl) :
    DS X W (.AugAssign (.Name n p2) op e pos) E (th (· = E') P) := by
  obtain ⟨te, e1, e2⟩ := he
  refine ⟨fun M L H σ D I kk => ⟨_, L2.ps_aug N.nd N.ix N.loc e1 ho N.fn, ?_⟩⟩
  obtain ⟨w, w1, w2⟩ := I.getD hg
  cases w2
  refine ⟨_, w1, e2 M L H σ _ I fun z H1 s1 r1 => ?_⟩
  cases r1
  exact ⟨_, _, rfl, rfl, kk.nx E' L H1 _ rfl (Step.same s1) (hE ▸ (I.same s1).setD (Nat.le_of_ble_eq_true hi) (.int _))⟩
/-- target = xs.pop() -/
theorem ds_pop {k : Nat} {v : α} {nx : Str} {ap cp np : Pos} {tg : Expr} {ft : PyData → List Sl → Option (List Sl)} {sl : List Nat} (hv : ∀ pos, PE X (.Name nx pos) (tVar k)) (T : TgR X tg ft sl) (hg : E[k]? = some (.o (oL f (xs ++ [v])))) (hE : ft (f v) (E.set k (.o (oL f xs))) = some E' := by rfl)
    (hbase : attributeBase (.Name nx np) "pop" X.env (eval (.Name nx np) X.env) = eval (.Name nx np) X.env := by rfl) (hline : (ap.endLine == cp.line) = true := by rfl)
    (hs : swapsWithSole [tg] (.Call (.Attribute (.Name nx np) "pop" ap) [] [] cp) pos.line X.env = pure false := by rfl) (hw : swappedStores [tg] (.Call (.Attribute (.Name nx np) "pop" ap) [] [] cp) X.env = pure none := by rfl) (h1 : (assignEach [tg] X.env).map (·.2) = [assign tg X.env] := by rfl) :
    DS X W (.Assign [tg] (.Call (.Attribute (.Name nx np) "pop" ap) [] [] cp) pos) E (th (· = E') P) := by
  obtain ⟨g, g1, g2⟩ := T
  refine ⟨fun M L H σ D I kk => ⟨_, ps_asg (pe_bm0 PySem.F.plainAttrs_list PySem.F.slot_list_pop PySem.F.type_list_pop mt_pop (hv _) hbase hline) g1 hs hw h1, ?_⟩⟩
  obtain ⟨p, vs, G, q1, q2, q3, q4, q5, q6⟩ := I.mut hg
  have hl : vs.length = xs.length + 1 := by rw [q3.length]; simp
  have e0 : ((xs ++ [v]).map f).map OT.d = ((xs.map f).map OT.d) ++ [OT.d (f v)] := by simp
  obtain ⟨w, w1, w2⟩ := Owns.atD (xs := (xs ++ [v]).map f) (i := (xs.length : Int)) (x := f v) q3 (at_nat (by simp))
  have hw : vs[vs.length - 1]? = some w := by
    have := atI_nat (xs := vs) (j := xs.length) (v := vs[xs.length]'(by omega)) (by simp)
    rw [this] at w1
    rw [hl]
    show vs[xs.length]? = some w
    rw [List.getElem?_eq_getElem (by omega)]
    exact w1
  obtain ⟨G2, o1, o2, o3⟩ := q3.front q4
  obtain ⟨m1, m2⟩ := q6 _ _ G2 o1 o2 o3
  have e2 : (((xs ++ [v]).map f).map OT.d).dropLast = (xs.map f).map OT.d := by rw [e0, List.dropLast_concat]
  rw [e2] at m1
  refine ⟨.ref p, q1, .inl ⟨rfl, vs, .inl (.inl q2)⟩, p, vs, w, rfl, rfl, q2, hw, g2 M L _ σ w (f v) _ E' _ m1 ?_ hE fun σ' J _ => kk.nx E' L _ σ' rfl m2 J⟩
  rw [fz_upd (List.mem_append_left _ q5)]
  exact w2
/-- sum(xs) -/
theorem de_sum {nm : Pos} {ns : List Int} (hc : X.calm = true) (ha : DE X E a (eL .int ns)) (hg : Gl X "sum") (hm : X.mg "sum" = none) (hs : starEach [a] X.env = (false, eval a X.env) :: starEach [] X.env := by rfl) : DE X E (.Call (.Name "sum" nm) [a] [] pos) (.int ns.sum) := by
  obtain ⟨ta, a1, a2⟩ := ha
  refine ⟨_, pe_callB (cr_sum hc) hg hm (by decide +kernel) (pa_cons a1 pa_nil hs) (he := hs), fun M L H σ Q I k => a2 M L H σ _ I fun v H1 s1 r1 => ?_⟩
  cases r1 with
  | lst h1 h2 =>
    have e := RA.ofInts h2
    subst e
    exact ⟨_, ns, rfl, fz_sub.seq h1, k _ H1 s1 (.int _)⟩
/-- x in xs, x not in xs: whole numbers -/
theorem flat_ints : ∀ ns : List Int, (ns.map V.int).all flatV = true
  | [] => rfl
  | n :: ns => by
    show (flatV (V.int n) && (ns.map V.int).all flatV) = true
    rw [flat_ints ns]
    rfl
theorem inV_int (n : Int) : ∀ ns : List Int, inV (V.int n) (ns.map V.int) = decide (n ∈ ns)
  | [] => rfl
  | m :: ns => by
    have ih := inV_int n ns
    have e : inV (V.int n) ((m :: ns).map V.int) = (eqV (V.int m) (V.int n) || inV (V.int n) (ns.map V.int)) := rfl
    rw [e, ih]
    show ((m == n) || decide (n ∈ ns)) = decide (n ∈ m :: ns)
    by_cases h : m = n
    · subst h; simp
    · have h' : ¬ n = m := fun z => h z.symm
      simp [h, h']
theorem rIn_ok {neg : Bool} {n : Int} {ns : List Int} {M L : List Addr} {H : Hp} {v w : V} {Q : VK} (r1 : R X.K (fz (L ++ M) H) v (.int n)) (r2 : R X.K (fz (L ++ M) H) w (eL .int ns)) (k : ∀ u H', Same H H' → R X.K (fz (L ++ M) H') u (.bool (if neg then !decide (n ∈ ns) else decide (n ∈ ns))) → Q u H') : rIn X.K neg v w H Q := by
  cases r1
  cases r2 with
  | lst h1 h2 =>
    have e := RA.ofInts h2
    subst e
    exact ⟨_, _, rfl, .inl (fz_sub.seq h1), rfl, flat_ints ns, k _ H (Same.refl H) (by rw [inV_int]; exact .bl _)⟩
theorem dt_niI {n : Int} {ns : List Int} (ha : DE X E a (.int n)) (hb : DE X E b (eL .int ns)) (hmk : behindInMarks .NotIn b = false := by rfl) : DT X E (.Compare a [.NotIn] [b] pos) (!decide (n ∈ ns)) := dt_cmp op_notIn_seq ha hb (fun M L H σ v w Q I r1 r2 k => rIn_ok (neg := true) r1 r2 k) hmk
end
/-! ### a def that stands in the module -/
section
variable (P : Program) (w : World) (K : PySem.W.Frag) (mg : Str → Option Value) (base : Heap)
structure Cal (f : Str) (n : Nat) (Rf : List PyData → Res → Prop) (k : Nat) : Prop where
  ex : ∃ (g : Addr) (fd : FuncData) (ps : List Str), FnOk P w K mg base (L2.CX P w) k g fd ps (spD K n Rf) ∧ mg f = some (.ref g) ∧ PySem.W.keepIn K (.ref g) = true ∧ Binds K fd ps []
structure Def (f : Str) (st : Stmt) (ps : List Str) : Prop where
  ex : ∃ (g : Addr) (fd : FuncData), Fun K f f st g fd ∧ mg f = some (.ref g) ∧ Binds K fd ps []
end
theorem Cal.at {X : Cx} {f : Str} {n k j : Nat} {Rf : List PyData → Res → Prop} (c : Cal X.prog X.w X.K X.mg X.base f n Rf k) (hr : Room j X.A) (h : Nat.ble k j = true := by rfl) : FnD X f n Rf := by
  obtain ⟨g, fd, ps, h1, h2, h3, h4⟩ := c.ex
  exact ⟨g, fd, ps, k, h1, hr.mono (Nat.le_of_ble_eq_true h), h2, h3, h4⟩
/-- THE RULE for a def of the module -/
theorem cal_ok {P : Program} {w : World} {K : PySem.W.Frag} {mg : Str → Option Value} {base : Heap} {f : Str} {st : Stmt} {N ps : List Str} {k n : Nat} {Rf : List PyData → Res → Prop} (F : Def K mg f st ps) (S : FnScope N ps (defScope st)) (hn : ps.length = n)
    (hbody : ∀ (g : Addr) (cdv : Value) (A : Around) (outer : List Env) (s : Shared) (H : Hp) (E : XK) (X : Cx), X = cxOf (L2.CX P w) P w K mg base N f (defScope st) g cdv A outer s H E → CxF X (wF E) → Room k X.A → ∀ xs r, xs.length = n → Rf xs r → DSs X (wF E) (defBody st) (entry N.length xs) (fin r)) :
    Cal P w K mg base f n Rf (k + 1) := by
  obtain ⟨g, fd, h1, h2, h3⟩ := F.ex
  exact ⟨g, fd, ps, fn_ok h1 S hn (fun cdv A outer s H E X => hbody g cdv A outer s H E X), h2, h1.kp, h3⟩
end D

end

section
set_option Elab.async false
set_option linter.all false
set_option autoImplicit false
set_option maxRecDepth 100000
set_option maxHeartbeats 2000000
namespace D
open PySem L2 PySem.Spec PyProof.Rows
abbrev eA : PyData → PyData := fun x => x
def goM {σ ρ β : Type} (g : Go σ ρ) (f : ρ → β) (k : σ → β) : β := match g with
  | .rt r => f r
  | .nx s => k s
  | .bk s => k s
def goN {σ β : Type} (g : Go σ Empty) (k : σ → β) : β := match g with
  | .rt r => r.elim
  | .nx s => k s
  | .bk s => k s
/-- a constant of the module -/
def ConstD (K : PySem.W.Frag) (mg : Str → Option Value) (n : Str) (x : PyData) : Prop := ∃ (v : V) (u : Value), mg n = some u ∧ RelV v u ∧ ∀ H, R K H v x
theorem cdivw {i j : Int} (h : 0 < j) (hb : j < 2 ^ 9000) : CDivW i j := by
  refine ⟨h, PySem.Flt.log2_lt_of (by decide) ?_⟩
  have e : ((j.natAbs : Nat) : Int) = j := by omega
  have e2 : (((2 : Nat) ^ 9000 : Nat) : Int) = (2 : Int) ^ 9000 := by rw [Int.natCast_pow]; rfl
  have : ((j.natAbs : Nat) : Int) < (((2 : Nat) ^ 9000 : Nat) : Int) := by rw [e, e2]; exact hb
  exact Int.ofNat_lt.mp this
section
variable {X : Cx} {W : WX} {st : Stmt} {sts rest bod els : List Stmt} {E E' : List Sl} {P P' : Out → Prop} {e a b c : Expr} {es : List Expr} {x y z : PyData} {pos : Pos} {t : OT} {p q : Bool} {α β : Type} {f : α → PyData} {g : β → PyData} {xs : List α} {i j k : Int}
theorem deC (q : x = y) (h : DE X E e x) : DE X E e y := q ▸ h
theorem dnC {t u : OT} (q : t = u) (h : DN X E e t) : DN X E e u := q ▸ h
theorem de_const {n : Str} (h : ConstD X.K X.mg n x) (hg : Gl X n) (hd : (n == ("__debug__" : Str)) = false := by decide) : DE X E (.Name n pos) x := by
  obtain ⟨v, u, h1, h2, h3⟩ := h
  exact de_glob hg h1 h2 (fun _ _ _ _ _ => h3 _) hd
theorem de_mulA (ha : DE X E a (.int i)) (hb : DE X E b (.int j)) (hc : CMul i j ∨ CMulW i j) : DE X E (.BinOp a .Mult b pos) (.int (i * j)) := by
  rcases hc with h | h
  · exact de_mul ha hb h
  · exact de_mulW ha hb h
theorem de_powL (n : Nat) (ha : DE X E a (.int i)) (hb : DE X E b (.int j)) (hj : j = (n : Int)) (hn : n ≤ 1000000) (hi : i.natAbs < 2 ^ 64) : DE X E (.BinOp a .Pow b pos) (.int (i ^ n)) := by
  subst hj
  exact (de_pow ha hb ⟨by omega, by omega, hi⟩).cast (by rw [Int.toNat_natCast])
/-- a <= b < c -/
theorem ev_chain {r r' : R2} {ta tb tc : TE} (ha : EvE X.K ta E (.int i)) (hb : EvE X.K tb E (.int j)) (hc : EvE X.K tc E (.int k)) {g g' : Int → Int → Bool} (hr : r = rI0 fun i j => .bl (g i j)) (hr' : r' = rI0 fun i j => .bl (g' i j)) : EvE X.K (tChain r r' ta tb tc) E (.bool (g i j && g' j k)) := by
  subst hr hr'
  intro M L H σ Q I kk
  refine ha M L H σ _ I fun v H1 s1 r1 => hb M L H1 σ _ (I.same s1) fun w H2 s2 r2 => ?_
  cases r1
  cases r2
  refine ⟨i, j, rfl, rfl, g i j, rfl, ?_⟩
  cases q : g i j with
  | true =>
    refine iteT (hc M L H2 σ _ (I.same (s1.trans s2)) fun u H3 s3 r3 => ?_)
    cases r3
    exact ⟨j, k, rfl, rfl, kk _ H3 ((s1.trans s2).trans s3) (by rw [q]; exact .bl _)⟩
  | false => exact iteF (kk _ H2 (s1.trans s2) (by rw [q]; exact .bl _))
theorem de_chain_le_lt (ha : DE X E a (.int i)) (hb : DE X E b (.int j)) (hc : DE X E c (.int k)) (hm : lastMarks [.LtE, .Lt] [b, c] = false := by rfl) : DE X E (.Compare a [.LtE, .Lt] [b, c] pos) (.bool (decide (i ≤ j) && decide (j < k))) := by
  obtain ⟨ta, a1, a2⟩ := ha
  obtain ⟨tb, b1, b2⟩ := hb
  obtain ⟨tc, c1, c2⟩ := hc
  exact ⟨_, pe_chain op_le op_lt a1 b1 c1 (hm := hm), ev_chain a2 b2 c2 rfl rfl⟩
theorem isNon_O {f : α → PyData} (hf : ∀ a, isNon (f a) = false) (o : Option α) : isNon (eO f o) = o.isNone := by
  cases o with
  | none => rfl
  | some a => exact hf a
theorem dt_isNO {o : Option α} {j p2} (ha : DE X E a (eO f o)) (hf : ∀ a, isNon (f a) = false := by intro _; rfl) : DT X E (.Compare a [.Is] [.Constant .none j p2] pos) o.isNone := isNon_O hf o ▸ dt_isN ha
theorem v_eq_bool : decide (V.bl p = V.bl q) = decide (p = q) := by cases p <;> cases q <;> rfl
theorem dt_neB (ha : DE X E a (.bool p)) (hb : DE X E b (.bool q)) : DT X E (.Compare a [.NotEq] [b] pos) (!decide (p = q)) := dt_cmp op_ne ha hb (fun M L H σ v w Q I r1 r2 k => by cases r1; cases r2; exact ⟨rfl, k _ H (Same.refl H) (by rw [v_eq_bool]; exact .bl _)⟩) (nomark _)
/-- both ways go on; names that one of them sets may be forgotten -/
theorem ds_ifl (hc : DT X E c p) (ha : p = true → DSs X W bod E (th (fun E1 => Le E1 E') P)) (hb : p = false → DSs X W els E (th (fun E1 => Le E1 E') P)) (hr : DSs X W rest E' P) : DSs X W (.If c bod els pos :: rest) E P :=
  ds_seq (ds_if hc ha hb) fun E1 l => ds_le l hr
end
theorem fnil_len : ∀ xs E E', fNil xs E = some E' → xs.length = 0
  | [], _, _, _ => rfl
  | x :: xs, _, _, h => by cases h
theorem fcons_len {f : PyData → List Sl → Option (List Sl)} {g : List PyData → List Sl → Option (List Sl)} {n : Nat} (hg : ∀ xs E E', g xs E = some E' → xs.length = n) : ∀ xs E E', fCons f g xs E = some E' → xs.length = n + 1
  | [], _, _, h => by cases h
  | x :: xs, E, E', h => by
    have h' : (f x E).bind (g xs) = some E' := h
    cases q : f x E with
    | none => rw [q] at h'; cases h'
    | some E1 =>
      rw [q] at h'
      show xs.length + 1 = n + 1
      rw [hg xs E1 E' h']
theorem snoc_of {α : Type} {xs : List α} (h : xs ≠ []) : ∃ (u : List α) (z : α), xs = u ++ [z] := ⟨xs.dropLast, xs.getLast h, (List.dropLast_concat_getLast h).symm⟩
end D

end

section
set_option Elab.async false
set_option linter.all false
set_option autoImplicit false
set_option maxRecDepth 100000
set_option maxHeartbeats 2000000
set_option exponentiation.threshold 20000
namespace D
open PySem L2
/-! ### common parts -/
theorem gcd_mod (a b : Int) (hb : 0 < b) : Int.gcd b (a % b) = Int.gcd a b := by
  rw [Int.gcd_comm b, Int.gcd_comm a]
  first
    | exact Int.gcd_emod ..
    | (rw [Int.emod_def]; simp [Int.gcd_comm])
theorem whileG_gcd {c : Int × Int → Bool} {f : Int × Int → Go (Int × Int) Empty} (hc : ∀ s, c s = !decide (s.2 = 0)) (hf : ∀ s, f s = .nx (s.2, s.1 % s.2)) :
    ∀ (n : Nat) (a b : Int), 0 ≤ b → b.toNat < n → ∃ g, whileG c f n (a, b) = .nx (g, 0) ∧ g.natAbs = Int.gcd a b ∧ (0 ≤ a → 0 ≤ g) ∧ (b ≠ 0 → 0 ≤ g)
  | 0, a, b, h, h' => by omega
  | n + 1, a, b, h, h' => by
    by_cases hb : b = 0
    · subst hb
      refine ⟨a, ?_, by simp, fun q => q, fun q => absurd rfl q⟩
      rw [whileG, hc]
      rfl
    · have h1 := Int.emod_nonneg a hb
      have h2 := Int.emod_lt_of_pos a (show 0 < b by omega)
      obtain ⟨g, e, e2, e3, e4⟩ := whileG_gcd hc hf n b (a % b) h1 (by omega)
      refine ⟨g, ?_, ?_, fun _ => e3 h, fun _ => e3 h⟩
      · rw [whileG, hc, hf]
        show (match (!decide (b = 0)) with | false => _ | true => _) = _
        rw [decide_eq_false hb]
        exact e
      · rw [e2, gcd_mod a b (by omega)]
/-- sizes -/
def Sz (n : Nat) (i : Int) : Prop := i.natAbs < 2 ^ n
theorem Sz.mono {m n : Nat} {i : Int} (a : Sz m i) (h : m ≤ n) : Sz n i := Nat.lt_of_lt_of_le a (Nat.pow_le_pow_right (by decide) h)
theorem Sz.add {n : Nat} {i j : Int} (a : Sz n i) (b : Sz n j) : Sz (n + 1) (i + j) := by
  have h := Int.natAbs_add_le i j
  unfold Sz at *
  rw [Nat.pow_succ]
  omega
theorem Sz.sub {n : Nat} {i j : Int} (a : Sz n i) (b : Sz n j) : Sz (n + 1) (i - j) := by
  have h := Int.natAbs_add_le i (-j)
  rw [Int.natAbs_neg] at h
  unfold Sz at *
  rw [Nat.pow_succ, Int.sub_eq_add_neg]
  omega
theorem Sz.of {n : Nat} {i : Int} (h1 : -(2 ^ n : Int) < i) (h2 : i < (2 ^ n : Int)) : Sz n i := by
  unfold Sz
  have e : (((2 ^ n : Nat)) : Int) = (2 : Int) ^ n := by rw [Int.natCast_pow]; rfl
  omega
/-! ### fractions: the numbers that they are -/
abbrev Fr := Int × Int
/-- in lowest terms, bottom above nought -/
def Low (p : Fr) : Prop := 0 < p.2 ∧ Int.gcd p.1 p.2 = 1
/-- a fraction of some size -/
structure FrOk (n : Nat) (p : Fr) : Prop where
  nz : p.2 ≠ 0
  top : Sz n p.1
  bot : Sz n p.2
end D

end

section
set_option Elab.async false
set_option linter.all false
set_option autoImplicit false
set_option maxRecDepth 100000
set_option maxHeartbeats 2000000
set_option exponentiation.threshold 20000
namespace D
open PySem L2
/-- a tuple's length, kept out of the simplifier's sight -/
def tlen (n : Int) : Int := n
section
variable {X : Cx} {E : List Sl} {a : Expr} {pos nm : Pos} {α β γ δ ε : Type} {f : α → PyData} {g : β → PyData} {h : γ → PyData} {k : δ → PyData} {l : ε → PyData}
theorem de_lenT4 {v : T4 α β γ δ} (ha : DE X E a (eT4 f g h k v)) (hg : Gl X "len") (hm : X.mg "len" = none) (hs : starEach [a] X.env = (false, eval a X.env) :: starEach [] X.env := by rfl) : DE X E (.Call (.Name "len" nm) [a] [] pos) (.int (tlen 4)) := de_lenT ha hg hm hs
end
/-! ### loops that keep to something -/

theorem get_lt {α : Type} {xs : List α} {i : Nat} {a : α} (h : xs[i]? = some a) : i < xs.length := (List.getElem?_eq_some_iff.mp h).1
theorem forG_inv {σ α ρ : Type} {f : σ → α → Go σ ρ} : ∀ {xs : List α} (I : Nat → σ → Prop) (_ : ∀ i a s, xs[i]? = some a → I i s → ∃ s', f s a = .nx s' ∧ I (i + 1) s') {s : σ} (_ : I 0 s), ∃ s', forG f xs s = .nx s' ∧ I xs.length s'
  | [], I, h, s, h0 => ⟨s, rfl, h0⟩
  | x :: xs, I, h, s, h0 => by
    obtain ⟨s1, e1, i1⟩ := h 0 x s rfl h0
    obtain ⟨s2, e2, i2⟩ := forG_inv (xs := xs) (fun i => I (i + 1)) (fun i a s hx hi => h (i + 1) a s hx hi) i1
    refine ⟨s2, ?_, i2⟩
    unfold forG
    rw [e1]
    exact e2
theorem go_inv {σ ρ : Type} {x : Go σ ρ} {v : σ} {Q : σ → Prop} (h : ∃ s', x = .nx s' ∧ Q s') (e : x = .nx v) : Q v := by
  obtain ⟨s', h1, h2⟩ := h
  rw [e] at h1
  cases h1
  exact h2
theorem goN_nx {σ β : Type} {g : Go σ Empty} {s : σ} {k : σ → β} (h : g = .nx s) : goN g k = k s := by rw [h]; rfl
def NxP {σ ρ : Type} (g : Go σ ρ) (Q : σ → Prop) : Prop := match g with
  | .nx s => Q s
  | _ => False
theorem NxP.ex {σ ρ : Type} {g : Go σ ρ} {Q : σ → Prop} (h : NxP g Q) : ∃ s', g = .nx s' ∧ Q s' := by
  cases g with
  | nx s => exact ⟨s, rfl, h⟩
  | _ => exact h.elim
theorem inR_mod {n : Nat} {i : Int} (h : 0 < n) : inR n (i % (n : Int)) := ⟨by have := Int.emod_nonneg i (show (n : Int) ≠ 0 by omega); omega, Int.emod_lt_of_pos i (by omega)⟩
theorem gx_mem {α : Type} [Inhabited α] {xs : List α} {i : Int} (h : inR xs.length i) : gx xs i ∈ xs := by
  have e := at_gx h
  unfold atI at e
  cases q : ixN xs.length i with
  | none => rw [q] at e; cases e
  | some j => rw [q] at e; exact List.mem_of_getElem? e
/-! ### sizes of fractions -/
theorem FrOk.mono {m n : Nat} {p : Fr} (h : FrOk m p) (k : m ≤ n) : FrOk n p := ⟨h.nz, h.top.mono k, h.bot.mono k⟩
/-- a fraction in lowest terms, of the size of the laws' own -/
structure G60 (p : Fr) : Prop where
  low : Low p
  ok : FrOk 60 p
theorem G60.nz {p : Fr} (h : G60 p) : p.2 ≠ 0 := h.ok.nz
/-! ### the law itself -/
theorem law_ok {P : Program} {w : World} {K : PySem.W.Frag} {mg : Str → Option Value} {base : Heap} {f : Str} {st : Stmt} {N ps : List Str} {k n : Nat} {Rf : List PyData → Res → Prop} {g : Addr} {fd : FuncData} (F : Fun K f f st g fd) (S : FnScope N ps (defScope st)) (hn : ps.length = n)
    (hbody : ∀ (g : Addr) (cdv : Value) (A : Around) (outer : List Env) (s : Shared) (H : Hp) (E : XK) (X : Cx), X = cxOf (L2.CX P w) P w K mg base N f (defScope st) g cdv A outer s H E → CxF X (wF E) → Room k X.A → ∀ xs r, xs.length = n → Rf xs r → DSs X (wF E) (defBody st) (entry N.length xs) (fin r)) :
    FnOk P w K mg base (L2.CX P w) (k + 1) g fd ps (spD K n Rf) := fn_ok F S hn (fun cdv A outer s H E X => hbody g cdv A outer s H E X)
theorem def_mk {K : PySem.W.Frag} {h : Heap} {mg : Str → Option Value} {f : Str} {st : Stmt} {ps : List Str} {g : Addr} {fd : FuncData} (X : K.In h) (G : h.Ns mainGlobals mg) (a : PySem.W.nsIn K mainGlobals f = some (some (.ref g))) (F : Fun K f f st g fd) (b : Binds K fd ps []) : Def K mg f st ps := ⟨g, fd, F, PySem.W.mg_of X G a, b⟩
theorem law_sp {K : PySem.W.Frag} {H : Hp} {a : Addr} {ns : List Int} {Rf : List PyData → Res → Prop} (hS : SqL K H a (ns.map V.int)) (h : Rf [eL .int ns] (.v (.bool true))) : spD K 1 Rf [.ref a] H (fun v _ => v = .bl true) fun _ _ _ => False := by
  refine ⟨[], [eL .int ns], .v (.bool true), rfl, fun a h => (by cases h), ?_, h, ?_⟩
  · have e : fz [] H = H := by funext a; simp [fz]
    rw [e]
    exact .cons (.lst hS RA.ints) .nil
  · intro v H' F _ _ _ o
    cases o with
    | d r => cases r; rfl
theorem walk {l : PySem.W.OpenLaw} {q : Program} {loose : List Str} {XP : (Str → Option Value) → Heap → Prop} {YP : World → Heap → Prop} {d : DefRec} {K : Params → PySem.W.Frag} {x : Str} {k : Nat} {Rf : List PyData → Res → Prop} (hn : l.most = some 63) (hdf : d.params.defaults = []) (hr : Room k callerA)
    (hY : ∀ (w : World) (h : Heap), YP w h → (K w.params).In h)
    (F : ∀ (w : World) (mg : Str → Option Value) (fa : Addr) (h : Heap), (K w.params).In h → h.Ns mainGlobals mg → mg d.name = some (.ref fa) →
      ∃ fd : FuncData, (∀ (s : Shared) (u : Value), BindsTo s fd ⟨[u], []⟩ [(x, u)]) ∧ ∀ base : Heap, (K w.params).In base → base.Ns mainGlobals mg → FnOk l.prog w (K w.params) mg base (L2.CX l.prog w) k fa fd [x] (spD (K w.params) 1 Rf))
    (h : ∀ ns : List Int, ns.length ≤ 63 → Rf [eL .int ns] (.v (.bool true))) :
    PySem.W.WalkO q loose XP YP l.row.toRowW d [] (fun f vs => PySem.call f vs) :=
  L2.walk_of (n := 63) (k := k) (x := x) (CX := fun w => L2.CX l.prog w) (sp := fun w => spD (K w.params) 1 Rf) hn (by decide) hdf hr hY F (fun w H a ns hl _ hS => law_sp hS (h ns hl)) fun w H s e s' z => by
    obtain ⟨_, _, _, _, _, _, _, _, _, _, _, _, hE⟩ := z
    exact hE
/-! ### tests of classes -/
theorem kit_tyT {K : PySem.W.Frag} {C : Addr} {T : String} (h1 : PySem.W.kitMeta T = true) (h3 : PySem.W.subIn K (.ref C) (.type T) = some true) : PySem.W.kitOne K (.ref C) (.type T) = some true := by
  show (if (Value.ref C == Value.type T) = true then some true else if PySem.W.kitMeta T = true then PySem.W.subIn K (.ref C) (.type T) else none) = some true
  rw [if_pos h1, h3]
  split <;> rfl
theorem exm_ref {K : PySem.W.Frag} {C S : Addr} (h0 : PySem.W.subIn K (.ref S) (.type "BaseException") = some true) (h1 : PySem.W.isClsIn K S = true) (h2 : PySem.W.typeIn K (.ref S) = some (.type "type")) {b : Bool} (h3 : PySem.W.subIn K (.ref C) (.ref S) = some b) : PySem.W.exmOne K (.ref C) (.ref S) = some b := by
  have e0 : (PySem.W.subIn K (.ref S) (.type "BaseException") == some true) = true := by rw [h0]; rfl
  have e : ((PySem.W.clsIn K S).isSome && PySem.W.typeIn K (.ref S) == some (.type "type")) = true := by
    rw [show (PySem.W.clsIn K S).isSome = true from h1, h2]
    rfl
  show (if (PySem.W.subIn K (.ref S) (.type "BaseException") == some true) = true then (if ((PySem.W.clsIn K S).isSome && PySem.W.typeIn K (.ref S) == some (.type "type")) = true then PySem.W.subIn K (.ref C) (.ref S) else none) else none) = some b
  rw [if_pos e0, if_pos e, h3]
end D

end

section
set_option Elab.async false
set_option linter.all false
set_option autoImplicit false
set_option maxRecDepth 100000
set_option maxHeartbeats 2000000
namespace D
open PySem L2 PySem.Spec PyProof.Rows
/-! ### data of any kind -/
def isWhole : PyData → Bool
  | .int _ => true
  | _ => false
def asI : PyData → Int
  | .int i => i
  | _ => 0
def elems : PyData → List PyData
  | .tuple xs => xs
  | .list xs => xs
  | _ => []
def pyLen (x : PyData) : Int := ((elems x).length : Int)
theorem isWhole_eq {x : PyData} (h : isWhole x = true) : x = .int (asI x) := by cases x <;> first | rfl | cases h
theorem tuple_eq {x : PyData} (h : isTuple x = true) : x = .tuple (elems x) := by cases x <;> first | rfl | cases h
theorem list_eq {x : PyData} (h : isList x = true) : x = .list (elems x) := by cases x <;> first | rfl | cases h
theorem whole_mk {x : PyData} (h : (isInt x && !isBool x) = true) : isWhole x = true := by cases x <;> first | rfl | cases h
section
variable {X : Cx} {E : List Sl} {a b : Expr} {pos nm : Pos} {x : PyData} {i : Int}
theorem de_asI (h : DE X E a x) (hw : isWhole x = true) : DE X E a (.int (asI x)) := isWhole_eq hw ▸ h
theorem de_lenA (ha : DE X E a x) (hs : isTuple x = true ∨ isList x = true) (hg : Gl X "len") (hm : X.mg "len" = none) (h : starEach [a] X.env = (false, eval a X.env) :: starEach [] X.env := by rfl) : DE X E (.Call (.Name "len" nm) [a] [] pos) (.int (pyLen x)) := by
  rcases hs with hs | hs
  · exact de_lenT (tuple_eq hs ▸ ha) hg hm h
  · exact de_lenD (list_eq hs ▸ ha) hg hm h
theorem de_ixA (ha : DE X E a x) (hb : DE X E b (.int i)) (hs : isTuple x = true ∨ isList x = true) (hr : inR (elems x).length i) (h : PlainIx b := by exact fun _ _ => rfl) : DE X E (.Subscript a b pos) (gx (elems x) i) := by
  rcases hs with hs | hs
  · exact de_it (tuple_eq hs ▸ ha) hb (at_gx hr) h
  · exact de_ix (list_eq hs ▸ ha) hb (at_gx hr) h
end
theorem inR_py {x : PyData} {i : Int} (h0 : 0 ≤ i) (h : i < pyLen x) : inR (elems x).length i := ⟨by unfold pyLen at h; omega, h⟩
end D

end

section
set_option Elab.async false
set_option linter.all false
set_option autoImplicit false
set_option maxRecDepth 100000
set_option maxHeartbeats 2000000
namespace D
open PySem L2 PySem.Spec PyProof.Rows
/-! ### owned things within owned things: paths -/
def OT.subN : OT → List Nat → Option OT
  | z, [] => some z
  | .l ts, j :: p => (ts[j]?).bind fun u => u.subN p
  | .t ts, j :: p => (ts[j]?).bind fun u => u.subN p
  | .ob _ _ _ ts, j :: p => (ts[j]?).bind fun u => u.subN p
  | .la _ _, _ :: _ => none
  | .d _, _ :: _ => none
def OT.putN : OT → List Nat → OT → OT
  | _, [], u => u
  | .l ts, j :: p, u => .l (ts.set j (((ts[j]?).getD (.d .none)).putN p u))
  | .t ts, j :: p, u => .t (ts.set j (((ts[j]?).getD (.d .none)).putN p u))
  | .ob b C ks ts, j :: p, u => .ob b C ks (ts.set j (((ts[j]?).getD (.d .none)).putN p u))
  | .la b ts, _ :: _, _ => .la b ts
  | .d x, _ :: _, _ => .d x
/-- a list at a known place is seen as a list -/
def OT.sub : OT → List Nat → Option OT
  | .la _ ts, p => (OT.l ts).subN p
  | z, p => z.subN p
def OT.put : OT → List Nat → OT → OT
  | .la b _, [], .l ts => .la b ts
  | .la b ts, j :: p, u => .la b (ts.set j (((ts[j]?).getD (.d .none)).putN p u))
  | z, p, u => z.putN p u
inductive At (H : Hp) : V → List Nat → V → Prop
  | nil {v : V} : At H v [] v
  | l {a : Addr} {vs : List V} {j : Nat} {u w : V} {p : List Nat} : H a = some (.lst vs) → vs[j]? = some u → At H u p w → At H (.ref a) (j :: p) w
  | t {a : Addr} {vs : List V} {j : Nat} {u w : V} {p : List Nat} : H a = some (.tup vs) → vs[j]? = some u → At H u p w → At H (.ref a) (j :: p) w
  | o {a C dx : Addr} {fs : List (Str × V)} {j : Nat} {u w : V} {p : List Nat} : H a = some (.ins C dx fs) → (fs.map (·.2))[j]? = some u → At H u p w → At H (.ref a) (j :: p) w
theorem At.det {H : Hp} {v w w' : V} {p : List Nat} (h : At H v p w) (h' : At H v p w') : w = w' := by
  induction h with
  | nil => cases h'; rfl
  | l h1 h2 _ ih =>
    cases h' with
    | l g1 g2 g3 =>
      rw [h1] at g1; cases g1
      rw [h2] at g2; cases g2
      exact ih g3
    | t g1 _ _ => rw [h1] at g1; cases g1
    | o g1 _ _ => rw [h1] at g1; cases g1
  | t h1 h2 _ ih =>
    cases h' with
    | t g1 g2 g3 =>
      rw [h1] at g1; cases g1
      rw [h2] at g2; cases g2
      exact ih g3
    | l g1 _ _ => rw [h1] at g1; cases g1
    | o g1 _ _ => rw [h1] at g1; cases g1
  | o h1 h2 _ ih =>
    cases h' with
    | o g1 g2 g3 =>
      rw [h1] at g1; cases g1
      rw [h2] at g2; cases g2
      exact ih g3
    | l g1 _ _ => rw [h1] at g1; cases g1
    | t g1 _ _ => rw [h1] at g1; cases g1
theorem At.same {H H' : Hp} (e : Same H H') {v w : V} {p : List Nat} (h : At H v p w) : At H' v p w := by
  induction h with
  | nil => exact .nil
  | l h1 h2 _ ih => exact .l (e _ _ h1) h2 ih
  | t h1 h2 _ ih => exact .t (e _ _ h1) h2 ih
  | o h1 h2 _ ih => exact .o (e _ _ h1) h2 ih
theorem At.snocT {H : Hp} {v w : V} {a : Addr} {vs : List V} {j : Nat} {p : List Nat} (h : At H v p (.ref a)) (h1 : H a = some (.tup vs)) (h2 : vs[j]? = some w) : At H v (p ++ [j]) w := by
  generalize hb : V.ref a = b at h
  induction h with
  | nil => subst hb; exact .t h1 h2 .nil
  | l g1 g2 _ ih => exact .l g1 g2 (ih hb)
  | t g1 g2 _ ih => exact .t g1 g2 (ih hb)
  | o g1 g2 _ ih => exact .o g1 g2 (ih hb)
/-- what stands at a path, seen -/
theorem Own.traceN {K : PySem.W.Frag} {W : List Addr} {H : Hp} {s : OT} : ∀ (p : List Nat) {t : OT} {v : V} {F : List Addr}, Own K W H v t F → F.Nodup → t.subN p = some s → ∃ w G, At H v p w ∧ Own K W H w s G ∧ (∀ a ∈ G, a ∈ F) ∧ G.Nodup
  | [], z, v, F, h, nF, e => by
    have e' : some z = some s := by cases z <;> exact e
    cases e'
    exact ⟨v, F, .nil, h, fun a ha => ha, nF⟩
  | j :: p, .d x, v, F, h, nF, e => by cases e
  | j :: p, .la b x, v, F, h, nF, e => by cases e
  | j :: p, .l ts, v, F, h, nF, e => by
    have e' : (ts[j]?).bind (fun u => u.subN p) = some s := e
    cases q : ts[j]? with
    | none => rw [q] at e'; cases e'
    | some u =>
      rw [q] at e'
      cases h with
      | l hp hl ho =>
        obtain ⟨x, G, h1, h2, h3, h4⟩ := ho.get q
        obtain ⟨w, G2, k1, k2, k3, k4⟩ := Own.traceN p h2 (h4 (List.nodup_cons.mp nF).2) e'
        exact ⟨w, G2, .l hl h1 k1, k2, fun a ha => List.mem_cons_of_mem _ (h3 a (k3 a ha)), k4⟩
  | j :: p, .t ts, v, F, h, nF, e => by
    have e' : (ts[j]?).bind (fun u => u.subN p) = some s := e
    cases q : ts[j]? with
    | none => rw [q] at e'; cases e'
    | some u =>
      rw [q] at e'
      cases h with
      | t hl ho =>
        obtain ⟨x, G, h1, h2, h3, h4⟩ := ho.get q
        obtain ⟨w, G2, k1, k2, k3, k4⟩ := Own.traceN p h2 (h4 nF) e'
        exact ⟨w, G2, .t (fz_sub _ _ hl) h1 k1, k2, fun a ha => h3 a (k3 a ha), k4⟩
  | j :: p, .ob b0 C ks ts, v, F, h, nF, e => by
    have e' : (ts[j]?).bind (fun u => u.subN p) = some s := e
    cases q : ts[j]? with
    | none => rw [q] at e'; cases e'
    | some u =>
      rw [q] at e'
      cases h with
      | ob hp hl hc hk ho =>
        obtain ⟨x, G, h1, h2, h3, h4⟩ := ho.get q
        obtain ⟨w, G2, k1, k2, k3, k4⟩ := Own.traceN p h2 (h4 (List.nodup_cons.mp nF).2) e'
        exact ⟨w, G2, .o hl h1 k1, k2, fun a ha => List.mem_cons_of_mem _ (h3 a (k3 a ha)), k4⟩
theorem Own.trace {K : PySem.W.Frag} {W : List Addr} {H : Hp} {s : OT} (p : List Nat) {t : OT} {v : V} {F : List Addr} (h : Own K W H v t F) (nF : F.Nodup) (e : t.sub p = some s) : ∃ w G, At H v p w ∧ Own K W H w s G ∧ (∀ a ∈ G, a ∈ F) ∧ G.Nodup := by
  cases t with
  | la b ts =>
    cases h with
    | la hp hl ho => exact Own.traceN p (.l hp hl ho) nF e
  | _ => exact Own.traceN p h nF e
mutual
theorem Own.fp {K : PySem.W.Frag} {W W' : List Addr} {H H' : Hp} (e : Same H H') : ∀ (x : OT) (v : V) (F F' : List Addr), Own K W H v x F → Own K W' H' v x F' → F = F'
  | .d x, v, F, F', h, h' => by cases h; cases h'; rfl
  | .l ts, v, F, F', h, h' => by
    cases h with
    | l hp hl ho =>
      cases h' with
      | l hp' hl' ho' =>
        have z := e _ _ hl
        rw [hl'] at z
        cases z
        rw [Owns.fp e ts _ _ _ ho ho']
  | .t ts, v, F, F', h, h' => by
    cases h with
    | t hl ho =>
      cases h' with
      | t hl' ho' =>
        have z := e _ _ (fz_sub _ _ hl)
        rw [fz_sub _ _ hl'] at z
        cases z
        exact Owns.fp e ts _ _ _ ho ho'
  | .ob b0 C ks ts, v, F, F', h, h' => by
    cases h with
    | ob hp hl hc hk ho =>
      cases h' with
      | ob hp' hl' hc' hk' ho' =>
        have z := e _ _ hl
        rw [hl'] at z
        cases z
        rw [Owns.fp e ts _ _ _ ho ho']
  | .la b0 ts, v, F, F', h, h' => by
    cases h with
    | la hp hl ho =>
      cases h' with
      | la hp' hl' ho' =>
        have z := e _ _ hl
        rw [hl'] at z
        cases z
        rw [Owns.fp e ts _ _ _ ho ho']
theorem Owns.fp {K : PySem.W.Frag} {W W' : List Addr} {H H' : Hp} (e : Same H H') : ∀ (xs : List OT) (vs : List V) (F F' : List Addr), Owns K W H vs xs F → Owns K W' H' vs xs F' → F = F'
  | [], vs, F, F', h, h' => by cases h; cases h'; rfl
  | x :: xs, vs, F, F', h, h' => by
    cases h with
    | cons h1 h2 =>
      cases h' with
      | cons h1' h2' => rw [Own.fp e x _ _ _ h1 h1', Owns.fp e xs _ _ _ h2 h2']
end
/-- one of several owned things, put anew -/
theorem Owns.pick {K : PySem.W.Frag} {W : List Addr} {H : Hp} : ∀ {ts : List OT} {vs : List V} {F : List Addr} (j : Nat) {t : OT}, Owns K W H vs ts F → F.Nodup → ts[j]? = some t → ∃ v G, vs[j]? = some v ∧ Own K W H v t G ∧ G.Nodup ∧ (∀ a ∈ G, a ∈ F) ∧
    ∀ (H1 : Hp) (t' : OT) (G1 N : List Addr), Same (fz W H) (fz W H1) → (∀ a ∈ F, a ∉ G → H1 a = H a) → Own K W H1 v t' G1 → G1.Nodup → (∀ a ∈ G1, a ∈ G ∨ a ∈ N) → (∀ a ∈ N, a ∉ F) → ∃ F1, Owns K W H1 vs (ts.set j t') F1 ∧ F1.Nodup ∧ ∀ a ∈ F1, a ∈ F ∨ a ∈ N
  | [], _, _, j, t, h, nF, e => by simp at e
  | u :: ts, _, _, 0, t, h, nF, e => by
    cases h with
    | @cons v _ G vs _ F2 h1 h2 =>
      cases (Option.some.inj e : u = t)
      obtain ⟨n1, n2, n3⟩ := List.nodup_append.mp nF
      refine ⟨v, G, rfl, h1, n1, fun a ha => List.mem_append_left _ ha, fun H1 t' G1 N s hk o nG1 hG hN => ?_⟩
      have m2 : Owns K W H1 vs ts F2 := Owns.mono s _ _ _ (fun a ha => ⟨(Owns.sub _ _ _ h2 a ha).1, hk a (List.mem_append_right _ ha) fun z => n3 a z a ha rfl⟩) h2
      refine ⟨_, .cons o m2, List.nodup_append.mpr ⟨nG1, n2, fun a ha b hb q => ?_⟩, fun a ha => ?_⟩
      · rcases hG a ha with z | z
        · exact n3 a z b hb q
        · exact hN a z (q ▸ List.mem_append_right _ hb)
      · rcases List.mem_append.mp ha with z | z
        · exact (hG a z).imp (List.mem_append_left _) id
        · exact .inl (List.mem_append_right _ z)
  | u :: ts, _, _, j + 1, t, h, nF, e => by
    cases h with
    | @cons v0 _ G0 vs _ F2 h1 h2 =>
      obtain ⟨n1, n2, n3⟩ := List.nodup_append.mp nF
      obtain ⟨v, G, k1, k2, k3, k4, k5⟩ := Owns.pick (ts := ts) j h2 n2 (by simpa using e)
      refine ⟨v, G, by simpa using k1, k2, k3, fun a ha => List.mem_append_right _ (k4 a ha), fun H1 t' G1 N s hk o nG1 hG hN => ?_⟩
      obtain ⟨F1, q1, q2, q3⟩ := k5 H1 t' G1 N s (fun a ha n => hk a (List.mem_append_right _ ha) n) o nG1 hG (fun a ha z => hN a ha (List.mem_append_right _ z))
      have m1 : Own K W H1 v0 u G0 := Own.mono s _ _ _ (fun a ha => ⟨(Own.sub _ _ _ h1 a ha).1, hk a (List.mem_append_left _ ha) fun z => n3 a ha a (k4 a z) rfl⟩) h1
      refine ⟨_, .cons m1 q1, List.nodup_append.mpr ⟨n1, q2, fun a ha b hb q => ?_⟩, fun a ha => ?_⟩
      · rcases q3 b hb with z | z
        · exact n3 a ha b z q
        · exact hN b z (q ▸ List.mem_append_left _ ha)
      · rcases List.mem_append.mp ha with z | z
        · exact .inl (List.mem_append_left _ z)
        · exact (q3 a z).imp (List.mem_append_right _) id
/-- the list at a path gets other items -/
theorem Own.mutPN {K : PySem.W.Frag} {W : List Addr} {H : Hp} {ts : List OT} : ∀ (p : List Nat) {t : OT} {v : V} {F : List Addr}, Own K W H v t F → F.Nodup → t.subN p = some (.l ts) → ∃ q vs G, At H v p (.ref q) ∧ H q = some (.lst vs) ∧ Owns K W H vs ts G ∧ q ∈ W ∧ q ∈ F ∧ G.Nodup ∧ (∀ a ∈ G, a ∈ F) ∧
    ∀ (vs' : List V) (ts' : List OT) (G' N : List Addr), Owns K W H vs' ts' G' → G'.Nodup → (∀ a ∈ G', a ∈ G ∨ a ∈ N) → (∀ a ∈ N, a ∉ F) → ∃ F', Own K W (upd H q (.lst vs')) v (t.putN p (.l ts')) F' ∧ F'.Nodup ∧ ∀ a ∈ F', a ∈ F ∨ a ∈ N
  | [], z, v, F, h, nF, e => by
    have e' : some z = some (.l ts) := by cases z <;> exact e
    cases e'
    cases h with
    | @l q vs _ G hp hl ho =>
      obtain ⟨m1, m2⟩ := List.nodup_cons.mp nF
      refine ⟨q, vs, G, .nil, hl, ho, hp, List.mem_cons_self, m2, fun a ha => List.mem_cons_of_mem _ ha, fun vs' ts' G' N o n g gN => ?_⟩
      have qG : ∀ a ∈ G', a ≠ q := fun a ha z => by
        rcases g a ha with y | y
        · exact m1 (z ▸ y)
        · exact gN a y (z ▸ List.mem_cons_self)
      refine ⟨q :: G', .l hp upd_same (Owns.mono (by rw [fz_upd hp]; exact Same.refl _) _ _ _ (fun a ha => ⟨(Owns.sub _ _ _ o a ha).1, upd_ne (qG a ha)⟩) o), List.nodup_cons.mpr ⟨fun z => qG q z rfl, n⟩, fun a ha => ?_⟩
      rcases List.mem_cons.mp ha with z | z
      · exact .inl (z ▸ List.mem_cons_self)
      · exact (g a z).imp (List.mem_cons_of_mem _) id
  | j :: p, .d x, v, F, h, nF, e => by cases e
  | j :: p, .la b x, v, F, h, nF, e => by cases e
  | j :: p, .l us, v, F, h, nF, e => by
    have e' : (us[j]?).bind (fun u => u.subN p) = some (.l ts) := e
    cases q : us[j]? with
    | none => rw [q] at e'; cases e'
    | some u =>
      rw [q] at e'
      cases h with
      | @l b ws _ F2 hp hl ho =>
        obtain ⟨m1, m2⟩ := List.nodup_cons.mp nF
        obtain ⟨x, G, k1, k2, k3, k4, k5⟩ := Owns.pick j ho m2 q
        obtain ⟨q2, vs, G2, l1, l2, l3, l4, l5, l6, l7, l8⟩ := Own.mutPN p k2 k3 e'
        have bq : b ≠ q2 := fun z => m1 (z ▸ k4 _ l5)
        refine ⟨q2, vs, G2, .l hl k1 l1, l2, l3, l4, List.mem_cons_of_mem _ (k4 _ l5), l6, fun a ha => List.mem_cons_of_mem _ (k4 _ (l7 a ha)), fun vs' ts' G' N o n g gN => ?_⟩
        obtain ⟨G1, r1, r2, r3⟩ := l8 vs' ts' G' N o n g (fun a ha z => gN a ha (List.mem_cons_of_mem _ (k4 a z)))
        obtain ⟨F1, s1, s2, s3⟩ := k5 (upd H q2 (.lst vs')) (u.putN p (.l ts')) G1 N (by rw [fz_upd l4]; exact Same.refl _) (fun a ha hn => upd_ne fun z => hn (z ▸ l5)) r1 r2 r3 (fun a ha z => gN a ha (List.mem_cons_of_mem _ z))
        refine ⟨b :: F1, ?_, List.nodup_cons.mpr ⟨fun z => ?_, s2⟩, fun a ha => ?_⟩
        · show Own K W _ _ (.l (us.set j (((us[j]?).getD (.d .none)).putN p (.l ts')))) _
          rw [q]
          exact .l hp (by rw [upd_ne bq]; exact hl) s1
        · rcases s3 b z with y | y
          · exact m1 y
          · exact gN b y List.mem_cons_self
        · rcases List.mem_cons.mp ha with z | z
          · exact .inl (z ▸ List.mem_cons_self)
          · exact (s3 a z).imp (List.mem_cons_of_mem _) id
  | j :: p, .t us, v, F, h, nF, e => by
    have e' : (us[j]?).bind (fun u => u.subN p) = some (.l ts) := e
    cases q : us[j]? with
    | none => rw [q] at e'; cases e'
    | some u =>
      rw [q] at e'
      cases h with
      | @t b ws _ _ hl ho =>
        obtain ⟨x, G, k1, k2, k3, k4, k5⟩ := Owns.pick j ho nF q
        obtain ⟨q2, vs, G2, l1, l2, l3, l4, l5, l6, l7, l8⟩ := Own.mutPN p k2 k3 e'
        refine ⟨q2, vs, G2, .t (fz_sub _ _ hl) k1 l1, l2, l3, l4, k4 _ l5, l6, fun a ha => k4 _ (l7 a ha), fun vs' ts' G' N o n g gN => ?_⟩
        obtain ⟨G1, r1, r2, r3⟩ := l8 vs' ts' G' N o n g (fun a ha z => gN a ha (k4 a z))
        obtain ⟨F1, s1, s2, s3⟩ := k5 (upd H q2 (.lst vs')) (u.putN p (.l ts')) G1 N (by rw [fz_upd l4]; exact Same.refl _) (fun a ha hn => upd_ne fun z => hn (z ▸ l5)) r1 r2 r3 gN
        refine ⟨F1, ?_, s2, s3⟩
        show Own K W _ _ (.t (us.set j (((us[j]?).getD (.d .none)).putN p (.l ts')))) _
        rw [q]
        exact .t (by rw [fz_upd l4]; exact hl) s1
  | j :: p, .ob b0 C ks us, v, F, h, nF, e => by
    have e' : (us[j]?).bind (fun u => u.subN p) = some (.l ts) := e
    cases q : us[j]? with
    | none => rw [q] at e'; cases e'
    | some u =>
      rw [q] at e'
      cases h with
      | @ob _ _ dx fs _ _ F2 hp hl hc hk ho =>
        obtain ⟨m1, m2⟩ := List.nodup_cons.mp nF
        obtain ⟨x, G, k1, k2, k3, k4, k5⟩ := Owns.pick j ho m2 q
        obtain ⟨q2, vs, G2, l1, l2, l3, l4, l5, l6, l7, l8⟩ := Own.mutPN p k2 k3 e'
        have bq : b0 ≠ q2 := fun z => m1 (z ▸ k4 _ l5)
        refine ⟨q2, vs, G2, .o hl k1 l1, l2, l3, l4, List.mem_cons_of_mem _ (k4 _ l5), l6, fun a ha => List.mem_cons_of_mem _ (k4 _ (l7 a ha)), fun vs' ts' G' N o n g gN => ?_⟩
        obtain ⟨G1, r1, r2, r3⟩ := l8 vs' ts' G' N o n g (fun a ha z => gN a ha (List.mem_cons_of_mem _ (k4 a z)))
        obtain ⟨F1, s1, s2, s3⟩ := k5 (upd H q2 (.lst vs')) (u.putN p (.l ts')) G1 N (by rw [fz_upd l4]; exact Same.refl _) (fun a ha hn => upd_ne fun z => hn (z ▸ l5)) r1 r2 r3 (fun a ha z => gN a ha (List.mem_cons_of_mem _ z))
        refine ⟨b0 :: F1, ?_, List.nodup_cons.mpr ⟨fun z => ?_, s2⟩, fun a ha => ?_⟩
        · show Own K W _ _ (.ob b0 C ks (us.set j (((us[j]?).getD (.d .none)).putN p (.l ts')))) _
          rw [q]
          exact .ob hp (by rw [upd_ne bq]; exact hl) hc hk s1
        · rcases s3 b0 z with y | y
          · exact m1 y
          · exact gN b0 y List.mem_cons_self
        · rcases List.mem_cons.mp ha with z | z
          · exact .inl (z ▸ List.mem_cons_self)
          · exact (s3 a z).imp (List.mem_cons_of_mem _) id
theorem Own.mutP {K : PySem.W.Frag} {W : List Addr} {H : Hp} {ts : List OT} (p : List Nat) {t : OT} {v : V} {F : List Addr} (h : Own K W H v t F) (nF : F.Nodup) (e : t.sub p = some (.l ts)) : ∃ q vs G, At H v p (.ref q) ∧ H q = some (.lst vs) ∧ Owns K W H vs ts G ∧ q ∈ W ∧ q ∈ F ∧ G.Nodup ∧ (∀ a ∈ G, a ∈ F) ∧
    ∀ (vs' : List V) (ts' : List OT) (G' N : List Addr), Owns K W H vs' ts' G' → G'.Nodup → (∀ a ∈ G', a ∈ G ∨ a ∈ N) → (∀ a ∈ N, a ∉ F) → ∃ F', Own K W (upd H q (.lst vs')) v (t.put p (.l ts')) F' ∧ F'.Nodup ∧ ∀ a ∈ F', a ∈ F ∨ a ∈ N := by
  cases t with
  | la b us =>
    cases h with
    | la hp hl ho =>
      obtain ⟨q, vs, G, h1, h2, h3, h4, h5, h6, h7, h8⟩ := Own.mutPN p (.l hp hl ho) nF e
      refine ⟨q, vs, G, h1, h2, h3, h4, h5, h6, h7, fun vs' ts' G' N o n g gN => ?_⟩
      obtain ⟨F', k1, k2, k3⟩ := h8 vs' ts' G' N o n g gN
      refine ⟨F', ?_, k2, k3⟩
      cases p with
      | nil =>
        cases (show OT.l ts' = OT.putN (.l us) [] (.l ts') from rfl)
        cases id k1 with
        | l p1 p2 p3 => exact .la p1 p2 p3
      | cons j p =>
        have k1' : Own K W (upd H q (.lst vs')) _ (.l (us.set j (((us[j]?).getD (.d .none)).putN p (.l ts')))) F' := k1
        cases k1' with
        | l p1 p2 p3 => exact .la p1 p2 p3
  | _ => exact Own.mutPN p h nF e
theorem Slots.mutP {K : PySem.W.Frag} {W : List Addr} {H : Hp} {ts : List OT} {p : List Nat} {σ : L2.St} {E : List Sl} {F : List Addr} (h : Slots K W H σ E F) : F.Nodup → ∀ (i : Nat) (t : OT), E[i]? = some (.o t) → t.sub p = some (.l ts) →
    ∃ v q vs G, σ[i]? = some (some v) ∧ At H v p (.ref q) ∧ H q = some (.lst vs) ∧ Owns K W H vs ts G ∧ q ∈ W ∧ q ∈ F ∧ G.Nodup ∧ (∀ a ∈ G, a ∈ F) ∧
    ∀ (vs' : List V) (ts' : List OT) (G' N : List Addr), Owns K W H vs' ts' G' → G'.Nodup → (∀ a ∈ G', a ∈ G ∨ a ∈ N) → (∀ a ∈ N, a ∉ F) → ∃ F', Slots K W (upd H q (.lst vs')) σ (E.set i (.o (t.put p (.l ts')))) F' ∧ F'.Nodup ∧ ∀ a ∈ F', a ∈ F ∨ a ∈ N := by
  induction h with
  | nil => intro _ i t e; simp at e
  | no hs ih =>
    intro nF i t e es
    cases i with
    | zero => simp at e
    | succ i =>
      obtain ⟨v, q, vs, G, h1, h2, h3, h4, h5, h6, h7, h8, h9⟩ := ih nF i t (by simpa using e) es
      refine ⟨v, q, vs, G, h1, h2, h3, h4, h5, h6, h7, h8, fun vs' ts' G' N o n g gN => ?_⟩
      obtain ⟨F', k1, k2, k3⟩ := h9 vs' ts' G' N o n g gN
      exact ⟨F', .no k1, k2, k3⟩
  | raw hs ih =>
    intro nF i t e es
    cases i with
    | zero => simp at e
    | succ i =>
      obtain ⟨v, q, vs, G, h1, h2, h3, h4, h5, h6, h7, h8, h9⟩ := ih nF i t (by simpa using e) es
      refine ⟨v, q, vs, G, h1, h2, h3, h4, h5, h6, h7, h8, fun vs' ts' G' N o n g gN => ?_⟩
      obtain ⟨F', k1, k2, k3⟩ := h9 vs' ts' G' N o n g gN
      exact ⟨F', .raw k1, k2, k3⟩
  | fx r hs ih =>
    intro nF i t e es
    cases i with
    | zero => simp at e
    | succ i =>
      obtain ⟨v, q, vs, G, h1, h2, h3, h4, h5, h6, h7, h8, h9⟩ := ih nF i t (by simpa using e) es
      refine ⟨v, q, vs, G, h1, h2, h3, h4, h5, h6, h7, h8, fun vs' ts' G' N o n g gN => ?_⟩
      obtain ⟨F', k1, k2, k3⟩ := h9 vs' ts' G' N o n g gN
      exact ⟨F', .fx (by rw [fz_upd h5]; exact r) k1, k2, k3⟩
  | @o v1 t1 G1 σ1 E1 F1 ho hs ih =>
    intro nF i t e es
    obtain ⟨n1, n2, n3⟩ := List.nodup_append.mp nF
    cases i with
    | zero =>
      cases Option.some.inj e
      obtain ⟨q, vs, G, k1, k2, k3, k4, k5, k6, k7, k8⟩ := Own.mutP p ho n1 es
      refine ⟨v1, q, vs, G, rfl, k1, k2, k3, k4, List.mem_append_left _ k5, k6, fun a ha => List.mem_append_left _ (k7 a ha), fun vs' ts' G' N o n g gN => ?_⟩
      obtain ⟨F', l1, l2, l3⟩ := k8 vs' ts' G' N o n g (fun a ha z => gN a ha (List.mem_append_left _ z))
      have qF : ∀ a ∈ F1, a ≠ q := fun a ha z => n3 q k5 a ha z.symm
      refine ⟨_, .o l1 (hs.mono (by rw [fz_upd k4]; exact Same.refl _) fun a ha => ⟨(hs.sub a ha).1, upd_ne (qF a ha)⟩), List.nodup_append.mpr ⟨l2, n2, fun a ha b hb z => ?_⟩, fun a ha => ?_⟩
      · rcases l3 a ha with y | y
        · exact n3 a y b hb z
        · exact gN a y (List.mem_append_right _ (z ▸ hb))
      · rcases List.mem_append.mp ha with z | z
        · exact (l3 a z).imp (List.mem_append_left _) id
        · exact .inl (List.mem_append_right _ z)
    | succ i =>
      obtain ⟨v, q, vs, G, h1, h2, h3, h4, h5, h6, h7, h8, h9⟩ := ih n2 i t (by simpa using e) es
      refine ⟨v, q, vs, G, h1, h2, h3, h4, h5, List.mem_append_right _ h6, h7, fun a ha => List.mem_append_right _ (h8 a ha), fun vs' ts' G' N o n g gN => ?_⟩
      obtain ⟨F', k1, k2, k3⟩ := h9 vs' ts' G' N o n g (fun a ha z => gN a ha (List.mem_append_right _ z))
      have qG : ∀ a ∈ G1, a ≠ q := fun a ha z => n3 a ha q h6 z
      refine ⟨_, .o (Own.mono (by rw [fz_upd h5]; exact Same.refl _) _ _ _ (fun a ha => ⟨(Own.sub _ _ _ ho a ha).1, upd_ne (qG a ha)⟩) ho) k1, List.nodup_append.mpr ⟨n1, k2, fun a ha b hb z => ?_⟩, fun a ha => ?_⟩
      · rcases k3 b hb with y | y
        · exact n3 a ha b y z
        · exact gN b y (List.mem_append_left _ (z ▸ ha))
      · rcases List.mem_append.mp ha with z | z
        · exact .inl (List.mem_append_left _ z)
        · exact (k3 a z).imp (List.mem_append_right _) id
theorem upd_there {H : Hp} {q : Addr} {o : HO} (a : Addr) (h : H a ≠ none) : upd H q o a ≠ none := fun z => by
  by_cases m : a = q
  · rw [m, upd_same] at z; cases z
  · rw [upd_ne m] at z; exact h z
theorem EnvR.mutP {K : PySem.W.Frag} {M L : List Addr} {H : Hp} {σ : L2.St} {E : List Sl} {i : Nat} {t : OT} {p : List Nat} {ts : List OT} (h : EnvR K M L H σ E) (e : E[i]? = some (.o t)) (es : t.sub p = some (.l ts)) :
    ∃ v q vs G, σ[i]? = some (some v) ∧ At H v p (.ref q) ∧ H q = some (.lst vs) ∧ Owns K (L ++ M) H vs ts G ∧ G.Nodup ∧ q ∈ L ∧ (∀ a ∈ G, a ∈ L) ∧
      ∀ (H1 : Hp) (N : List Addr), Same H H1 → (∀ a ∈ N, H a = none ∧ H1 a ≠ none) → ∀ (vs' : List V) (ts' : List OT) (G' : List Addr), Owns K (N ++ (L ++ M)) H1 vs' ts' G' → G'.Nodup → (∀ a ∈ G', a ∈ G ∨ a ∈ N) →
        EnvR K M (N ++ L) (upd H1 q (.lst vs')) σ (E.set i (.o (t.put p (.l ts')))) ∧ Step L H (N ++ L) (upd H1 q (.lst vs')) := by
  obtain ⟨⟨F, hs, nF, hL⟩, dom, dj⟩ := id h
  obtain ⟨v, q, vs, G, h1, h2, h3, h4, h5, h6, h7, h8, _⟩ := hs.mutP nF i t e es
  refine ⟨v, q, vs, G, h1, h2, h3, h4, h7, hL q h6, fun a ha => hL a (h8 a ha), fun H1 N s hN vs' ts' G' o n g => ?_⟩
  obtain ⟨⟨F2, hs2, nF2, hL2⟩, dom2, dj2⟩ := h.more s hN
  have hs3 : Slots K ((N ++ L) ++ M) H1 σ E F := hs.mono (fz_mono fun a o m z => ⟨fun y => by
    rw [List.append_assoc] at y
    rcases List.mem_append.mp y with y | y
    · rw [(hN a y).1] at z; cases z
    · exact m y, s a o z⟩) fun a ha => by
      obtain ⟨_, ws, y, _⟩ := hs.sub a ha
      exact ⟨List.mem_append_left _ (List.mem_append_right _ (hL a ha)), by rw [s _ _ y, y]⟩
  have nN : ∀ a ∈ N, a ∉ F := fun a ha z => by
    obtain ⟨_, ws, y, _⟩ := hs.sub a z
    rw [(hN a ha).1] at y
    cases y
  obtain ⟨v', q', vs2, G2, k1, k2, k3, k4, k5, k6, k7, k8, k9⟩ := hs3.mutP nF i t e es
  have ev : v = v' := by rw [h1] at k1; cases k1; rfl
  subst ev
  have eq : V.ref q = V.ref q' := (h2.same s).det k2
  cases eq
  have hq1 := s _ _ h3
  rw [k3] at hq1
  cases hq1
  have eG : ∀ a ∈ G', a ∈ G2 ∨ a ∈ N := fun a ha => by
    rcases g a ha with z | z
    · exact .inl (Owns.fp s _ _ _ _ h4 k4 ▸ z)
    · exact .inr z
  obtain ⟨F3, l1, l2, l3⟩ := k9 vs' ts' G' N (by rw [List.append_assoc]; exact o) n eG nN
  refine ⟨⟨⟨F3, l1, l2, fun a ha => ?_⟩, fun a ha => upd_there a (dom2 a ha), dj2⟩, ⟨fun a o m z => ?_, fun a ha => ?_, fun a z => upd_there a (not_none_same s z)⟩⟩
  · rcases l3 a ha with z | z
    · exact List.mem_append_right _ (hL a z)
    · exact List.mem_append_left _ z
  · rw [upd_ne fun y : a = q => m (by rw [y]; exact hL q h6)]
    exact s a o z
  · rcases List.mem_append.mp ha with z | z
    · exact .inr (hN a z).1
    · exact .inl z
end D

end

section
set_option Elab.async false
set_option linter.all false
set_option autoImplicit false
set_option maxRecDepth 100000
set_option maxHeartbeats 2000000
namespace D
open PySem L2 PySem.Spec PyProof.Rows
/-! ### several things at once, some of them new and owned -/
def EvNA (K : PySem.W.Frag) (ta : TA) (E : List Sl) (ts : List OT) : Prop :=
  ∀ (M L : List Addr) (H : Hp) (σ : L2.St) (Q : List V → Hp → Prop), EnvR K M L H σ E → (∀ vs H' F, Same H H' → F.Nodup → (∀ a ∈ F, H a = none) → Owns K (F ++ (L ++ M)) H' vs ts F → Q vs H') → ta σ H Q
structure DNA (X : Cx) (E : List Sl) (es : List Expr) (ts : List OT) : Prop where
  ex : ∃ ta, PA X es ta ∧ EvNA X.K ta E ts
theorem fz_mem {W W' : List Addr} (h : ∀ a, a ∈ W' → a ∈ W) {H : Hp} : Same (fz W H) (fz W' H) := fz_mono fun a o n e => ⟨fun z => n (h a z), e⟩
section
variable {X : Cx} {E : List Sl} {e a b c : Expr} {es : List Expr} {x y z : PyData} {xs : List PyData} {pos : Pos} {t u : OT} {ts : List OT}
theorem dna_nil : DNA X E [] [] := by
  refine ⟨_, pa_nil, fun M L H σ Q I k => ?_⟩
  exact k [] H [] (Same.refl H) List.nodup_nil (fun a ha => by cases ha) .nil
theorem dna_cons (ha : DN X E e t) (hb : DNA X E es ts) (hs : starEach (e :: es) X.env = (false, eval e X.env) :: starEach es X.env := by rfl) : DNA X E (e :: es) (t :: ts) := by
  obtain ⟨ta, a1, a2⟩ := ha
  obtain ⟨tb, b1, b2⟩ := hb
  refine ⟨_, pa_cons a1 b1 hs, fun M L H σ Q I k => a2 M L H σ _ I fun v H1 F1 s1 n1 f1 o1 => ?_⟩
  have I1 : EnvR X.K M (F1 ++ L) H1 σ E := I.more s1 fun a ha => ⟨f1 a ha, fun z => by
    obtain ⟨_, ws, q, _⟩ := Own.sub _ _ _ o1 a ha
    rw [q] at z; cases z⟩
  refine b2 M (F1 ++ L) H1 σ _ I1 fun vs H2 F2 s2 n2 f2 o2 => ?_
  have t1 : ∀ a ∈ F1, ∃ o, H1 a = some o := fun a ha => by
    obtain ⟨_, o, q, _⟩ := Own.sub _ _ _ o1 a ha
    exact ⟨o, q⟩
  refine k (v :: vs) H2 (F1 ++ F2) (s1.trans s2) (List.nodup_append.mpr ⟨n1, n2, fun a ha b hb q => ?_⟩) (fun a ha => ?_) (.cons ?_ ?_)
  · obtain ⟨ws, q1⟩ := t1 a ha
    rw [q, f2 b hb] at q1
    cases q1
  · rcases List.mem_append.mp ha with q | q
    · exact f1 a q
    · cases q2 : H a with
      | none => rfl
      | some o => have := s1 a o q2; rw [f2 a q] at this; cases this
  · refine Own.mono (fz_mono fun a o n q => ⟨fun m => ?_, s2 a o q⟩) _ _ _ (fun a ha => ?_) o1
    · rcases List.mem_append.mp m with m | m
      · rcases List.mem_append.mp m with m | m
        · exact n (List.mem_append_left _ m)
        · rw [f2 a m] at q; cases q
      · exact n (List.mem_append_right _ m)
    · obtain ⟨ws, q1⟩ := t1 a ha
      exact ⟨List.mem_append_left _ (List.mem_append_left _ ha), by rw [s2 _ _ q1, q1]⟩
  · refine Owns.mono (fz_mem fun a m => ?_) _ _ _ (fun a ha => ⟨List.mem_append_left _ (List.mem_append_right _ ha), rfl⟩) o2
    rcases List.mem_append.mp m with m | m
    · rcases List.mem_append.mp m with m | m
      · exact List.mem_append_right _ (List.mem_append_left _ (List.mem_append_left _ m))
      · exact List.mem_append_left _ m
    · rcases List.mem_append.mp m with m | m
      · exact List.mem_append_right _ (List.mem_append_left _ (List.mem_append_right _ m))
      · exact List.mem_append_right _ (List.mem_append_right _ m)
theorem dn_tupO {x1} (h : DNA X E es ts) (hl : Nat.ble ts.length sizeLine = true := by rfl) : DN X E (.Tuple es x1 pos) (.t ts) := by
  obtain ⟨ta, a1, a2⟩ := h
  refine ⟨_, pe_tup a1, fun M L H σ Q I k => a2 M L H σ _ I fun vs H1 F s1 nF hF q1 => ⟨by rw [q1.length]; exact Nat.le_of_ble_eq_true hl, fun p hp => ?_⟩⟩
  have sp : Same H1 (upd H1 p (.tup vs)) := same_new hp
  have np : p ∉ F ++ (L ++ M) := fun z => by
    rcases List.mem_append.mp z with z | z
    · obtain ⟨_, ws, q, _⟩ := Owns.sub _ _ _ q1 p z
      rw [hp] at q; cases q
    · exact (I.same s1).dom p z hp
  refine k _ _ F (s1.trans sp) nF hF (.t (by rw [fz_of np]; exact upd_same) (Owns.mono (fz_same sp) _ _ _ (fun a ha => ?_) q1))
  obtain ⟨m, ws, q, _⟩ := Owns.sub _ _ _ q1 a ha
  exact ⟨m, by rw [sp _ _ q, q]⟩
theorem dn_lstO (h : DNA X E es ts) (hl : Nat.ble ts.length sizeLine = true := by rfl) : DN X E (.List es pos) (.l ts) := by
  obtain ⟨ta, a1, a2⟩ := h
  refine ⟨_, pe_lst a1, fun M L H σ Q I k => a2 M L H σ _ I fun vs H1 F s1 nF hF q1 => ⟨by rw [q1.length]; exact Nat.le_of_ble_eq_true hl, fun p hp => ?_⟩⟩
  have sp : Same H1 (upd H1 p (.lst vs)) := same_new hp
  have hp0 : H p = none := s1.free hp
  have pF : p ∉ F := fun z => by
    obtain ⟨_, ws, q, _⟩ := Owns.sub _ _ _ q1 p z
    rw [hp] at q; cases q
  refine k _ _ (p :: F) (s1.trans sp) (List.nodup_cons.mpr ⟨pF, nF⟩) (fun a ha => ?_) (.l List.mem_cons_self upd_same (Owns.mono (fz_mono fun a o n e => ⟨fun z => ?_, sp a o e⟩) _ _ _ (fun a ha => ?_) q1))
  · rcases List.mem_cons.mp ha with z | z
    · rw [z]; exact hp0
    · exact hF a z
  · rcases List.mem_cons.mp z with z | z
    · rw [z, hp] at e; cases e
    · exact n z
  · obtain ⟨m, ws, q, _⟩ := Owns.sub _ _ _ q1 a ha
    exact ⟨List.mem_cons_of_mem _ m, by rw [sp _ _ q, q]⟩
end
/-! ### an expression that stands for a path of a name -/
structure DP (X : Cx) (E : List Sl) (e : Expr) (i : Nat) (p : List Nat) : Prop where
  ex : ∃ te, PE X e te ∧ ∀ (M L : List Addr) (H : Hp) (σ : L2.St) (Q : VK), EnvR X.K M L H σ E → (∀ v H', Same H H' → (∃ u, σ[i]? = some (some u) ∧ At H' u p v) → Q v H') → te σ H Q
section
variable {X : Cx} {W : WX} {E E' : List Sl} {e a b c obj : Expr} {es : List Expr} {x y z : PyData} {xs : List PyData} {pos : Pos} {t u : OT} {ts : List OT} {i : Nat} {p : List Nat} {n : Int} {j : Nat} {P : Out → Prop}
theorem dp_v (i : Nat) (h : PE X e (tVar i)) (g : E[i]? = some (.o t) := by rfl) : DP X E e i [] := ⟨_, h, fun M L H σ Q I k => by
  obtain ⟨v, G, h1, _⟩ := I.get g
  exact ⟨v, h1, k v H (Same.refl H) ⟨v, h1, .nil⟩⟩⟩
theorem dp_ixT (hp : DP X E a i p) (hb : DE X E b (.int n)) (g : E[i]? = some (.o t)) (hs : t.sub p = some (.t ts)) (hj : ixN ts.length n = some j := by rfl) (hx : PlainIx b := by exact fun _ _ => rfl) : DP X E (.Subscript a b pos) i (p ++ [j]) := by
  obtain ⟨ta, a1, a2⟩ := hp
  obtain ⟨tb, b1, b2⟩ := hb
  refine ⟨_, pe_ix ix_tup a1 b1 hx, fun M L H σ Q I k => a2 M L H σ _ I fun v H1 s1 ⟨z, hz, at1⟩ => b2 M L H1 σ _ (I.same s1) fun w H2 s2 r2 => ?_⟩
  cases r2
  have I2 := (I.same s1).same s2
  obtain ⟨z', G, g1, g2, g3, g4⟩ := I2.get g
  rw [hz] at g1
  cases g1
  obtain ⟨w, G2, t1, t2, t3, t4⟩ := Own.trace p g2 g4 hs
  have ev := (at1.same s2).det t1
  subst ev
  cases t2 with
  | @t q vs _ _ hl ho =>
    have hlen := ho.length
    have hj' := ixN_seq hj
    obtain ⟨tt, htt⟩ : ∃ tt, ts[j]? = some tt := ⟨ts[j]'hj'.2.1, List.getElem?_eq_getElem hj'.2.1⟩
    obtain ⟨x, G3, e1, e2, _⟩ := ho.get htt
    have e3 : atI vs n = some x := by
      unfold atI
      rw [hlen, hj]
      exact e1
    exact ⟨q, vs, n, x, rfl, rfl, .inl (.inl (fz_sub _ _ hl)), e3, k _ H2 (s1.trans s2) ⟨z, hz, t1.snocT (fz_sub _ _ hl) e1⟩⟩
theorem fresh_own {K : PySem.W.Frag} {L M F : List Addr} {H H1 : Hp} {v : V} {u : OT} (s : Same H H1) (hF : ∀ a ∈ F, H a = none) (o : Own K (F ++ (L ++ M)) H1 v u F) : (∀ a ∈ F, H a = none ∧ H1 a ≠ none) ∧ Same (fz (L ++ M) H) (fz (F ++ (L ++ M)) H1) := by
  refine ⟨fun a ha => ⟨hF a ha, fun z => ?_⟩, fz_mono fun a o n q => ⟨fun z => ?_, s a o q⟩⟩
  · obtain ⟨_, ws, q, _⟩ := Own.sub _ _ _ o a ha
    rw [q] at z; cases z
  · rcases List.mem_append.mp z with z | z
    · rw [hF a z] at q; cases q
    · exact n z
/-- obj.append(e) -/
theorem ds_appendP {ap cp : Pos} (ho : DP X E obj i p) (he : DN X E e u) (g : E[i]? = some (.o t)) (hs : t.sub p = some (.l ts)) (hl : ts.length < sizeLine) (hE : E.set i (.o (t.put p (.l (ts ++ [u])))) = E')
    (hbase : attributeBase obj "append" X.env (eval obj X.env) = eval obj X.env := by rfl)
    (hfew : ((backTo cp (starEach [e] X.env)).all (fun x => !x.1) && (backToKw cp (keywordEach [] X.env)).all (fun x => x.1.isSome) && decide ([e].length + ([] : List Keyword).length + (if ([] : List Keyword).isEmpty then 0 else 1) < 30)) = true := by rfl)
    (hline : (ap.endLine == cp.line) = true := by rfl) (hst : starEach [e] X.env = (false, eval e X.env) :: starEach [] X.env := by rfl) (hplain : (backTo cp (starEach [] X.env)).any (·.1) = false := by rfl)
    (hsw : swapsWith (.Call (.Attribute obj "append" ap) [e] [] cp) none pos.line X.env = pure false := by rfl) :
    DS X W (.Expr (.Call (.Attribute obj "append" ap) [e] [] cp) pos) E (th (· = E') P) := by
  obtain ⟨ta, a1, a2⟩ := ho
  obtain ⟨te, e1, e2⟩ := he
  refine ⟨fun M L H σ D I k => ⟨_, ps_expr (pe_bm PySem.F.plainAttrs_list PySem.F.slot_list_append PySem.F.type_list_append mt_append a1 (pa_cons e1 pa_nil hst) hbase hfew hline hst hplain) hsw, a2 M L H σ _ I fun v H0 s0 ⟨z, hz, at0⟩ => ?_⟩⟩
  have I0 := I.same s0
  obtain ⟨z', q, vs, G, h1, h2, h3, h4, h5, h6, h7, h8⟩ := I0.mutP g hs
  rw [hz] at h1
  cases h1
  have ev := at0.det h2
  subst ev
  refine ⟨.inl ⟨rfl, vs, .inl (.inl h3)⟩, ?_⟩
  refine e2 M L H0 σ _ I0 fun w H1 F s1 nF hF o => ?_
  obtain ⟨f1, f2⟩ := fresh_own s1 hF o
  have m : Owns X.K (F ++ (L ++ M)) H1 vs ts G := Owns.mono f2 _ _ _ (fun a ha => by
    obtain ⟨y1, ws, y2, _⟩ := Owns.sub _ _ _ h4 a ha
    exact ⟨List.mem_append_right _ y1, by rw [s1 _ _ y2, y2]⟩) h4
  obtain ⟨q1, q2⟩ := h8 H1 F s1 f1 (vs ++ [w]) (ts ++ [u]) (G ++ (F ++ [])) (m.append (.cons o .nil)) (List.nodup_append.mpr ⟨h5, by simpa using nF, fun a ha b hb y => by
      obtain ⟨_, ws, y2, _⟩ := Owns.sub _ _ _ h4 a ha
      rw [y, hF b (by simpa using hb)] at y2
      cases y2⟩) (fun a ha => by
      rcases List.mem_append.mp ha with y | y
      · exact .inl y
      · exact .inr (by simpa using y))
  exact ⟨q, vs, w, rfl, rfl, s1 _ _ h3, by rw [h4.length]; exact hl, k.nx E' (F ++ L) _ σ rfl ((Step.same s0).trans q2) (hE ▸ q1)⟩
/-- obj.clear() -/
theorem ds_clearP {ap cp : Pos} (ho : DP X E obj i p) (g : E[i]? = some (.o t)) (hs : t.sub p = some (.l ts)) (hE : E.set i (.o (t.put p (.l []))) = E')
    (hbase : attributeBase obj "clear" X.env (eval obj X.env) = eval obj X.env := by rfl) (hline : (ap.endLine == cp.line) = true := by rfl)
    (hsw : swapsWith (.Call (.Attribute obj "clear" ap) [] [] cp) none pos.line X.env = pure false := by rfl) :
    DS X W (.Expr (.Call (.Attribute obj "clear" ap) [] [] cp) pos) E (th (· = E') P) := by
  obtain ⟨ta, a1, a2⟩ := ho
  refine ⟨fun M L H σ D I k => ⟨_, ps_expr (pe_bm0 PySem.F.plainAttrs_list PySem.F.slot_list_clear PySem.F.type_list_clear mt_clear a1 hbase hline) hsw, a2 M L H σ _ I fun v H0 s0 ⟨z, hz, at0⟩ => ?_⟩⟩
  have I0 := I.same s0
  obtain ⟨z', q, vs, G, h1, h2, h3, h4, h5, h6, h7, h8⟩ := I0.mutP g hs
  rw [hz] at h1
  cases h1
  have ev := at0.det h2
  subst ev
  obtain ⟨q1, q2⟩ := h8 H0 [] (Same.refl _) (fun a ha => by cases ha) [] [] [] .nil List.nodup_nil (fun a ha => by cases ha)
  exact ⟨.inl ⟨rfl, vs, .inl (.inl h3)⟩, q, vs, rfl, rfl, h3, k.nx E' L _ σ rfl ((Step.same s0).trans q2) (hE ▸ q1)⟩
end
end D

end

section
set_option Elab.async false
set_option linter.all false
set_option autoImplicit false
set_option maxRecDepth 100000
set_option maxHeartbeats 2000000
namespace D
open PySem L2 PySem.Spec PyProof.Rows
section
variable {X : Cx} {W : WX} {E E' : List Sl} {e a b c obj : Expr} {es : List Expr} {x y z : PyData} {xs : List PyData} {pos : Pos} {t u : OT} {ts : List OT} {i : Nat} {p : List Nat} {n : Int} {j : Nat} {P : Out → Prop}
end
/-! ### how typed things are owned: shapes -/
abbrev oD {α : Type} (f : α → PyData) : α → OT := fun x => .d (f x)
abbrev oS {α : Type} (g : α → OT) (xs : List α) : OT := .l (xs.map g)
abbrev oP {α β : Type} (f : α → OT) (g : β → OT) (p : α × β) : OT := .t [f p.1, g p.2]
theorem oL_eq {α : Type} (f : α → PyData) (xs : List α) : oL f xs = oS (oD f) xs := by
  show OT.l _ = OT.l _
  rw [List.map_map]
  rfl
theorem dats_map {α : Type} {g : α → OT} {f : α → PyData} (h : ∀ x, (g x).dat = f x) : ∀ xs : List α, dats (xs.map g) = xs.map f
  | [] => rfl
  | x :: xs => by
    show (g x).dat :: dats (xs.map g) = f x :: xs.map f
    rw [h x, dats_map h xs]
/-- it is f as data -/
def Dat {α : Type} (g : α → OT) (f : α → PyData) : Prop := ∀ x, (g x).dat = f x
theorem dat_D {α : Type} (f : α → PyData) : Dat (oD f) f := fun _ => rfl
theorem dat_L {α : Type} (f : α → PyData) : Dat (oL f) (eL f) := dat_oL f
theorem dat_S {α : Type} {g : α → OT} {f : α → PyData} (h : Dat g f) : Dat (oS g) (eL f) := fun xs => by
  show PyData.list _ = PyData.list _
  rw [dats_map h]
theorem dat_P {α β : Type} {g : α → OT} {g' : β → OT} {f : α → PyData} {f' : β → PyData} (h : Dat g f) (h' : Dat g' f') : Dat (oP g g') (eP f f') := fun x => by
  show PyData.tuple [(g x.1).dat, (g' x.2).dat] = _
  rw [h, h']
section
variable {X : Cx} {W : WX} {sts : List Stmt} {E E' : List Sl} {e : Expr} {x : PyData} {b : Bool} {P : Out → Prop} {α β : Type} {f : α → PyData} {g : α → OT} {v : α}
theorem DN.toS (d : Dat g f) (h : DN X E e (g v)) : DE X E e (f v) := d v ▸ h.toE
theorem ds_freezeS (i : Nat) (d : Dat g f) (hg : E[i]? = some (.o (g v))) (hE : E.set i (.o (.d (f v))) = E') (h : DSs X W sts E' P) : DSs X W sts E P := ds_freeze i hg (by rw [d v]; exact hE) h
theorem dt_borrowS (i : Nat) (d : Dat g f) (hg : E[i]? = some (.o (g v))) (h : DT X (E.set i (.o (.d (f v)))) e b) : DT X E e b := dt_borrow i hg (by rw [d v]) h
end
/-! ### what is new and flat does not hold what was borrowed -/
mutual
def oflat : OT → Bool
  | .d x => flat x
  | .l ts => oflats ts
  | .t ts => oflats ts
  | .ob _ _ _ _ => false
  | .la _ _ => false
def oflats : List OT → Bool
  | [] => true
  | t :: ts => oflat t && oflats ts
end
mutual
theorem Own.flat {K : PySem.W.Frag} {W W' : List Addr} {H : Hp} (h : ∀ a o, a ∉ W' → H a = some o → a ∉ W ∨ OwO o) : ∀ (x : OT) (v : V) (F : List Addr), (∀ a ∈ F, a ∈ W) → oflat x = true → Own K W' H v x F → Own K W H v x F
  | .d x, v, F, hF, n, o => by
    cases o with
    | d r => exact .d (R.flat h x v (by simpa [oflat] using n) r)
  | .l ts, v, F, hF, n, o => by
    cases o with
    | l hp hl ho => exact .l (hF _ List.mem_cons_self) hl (Owns.flat h ts _ _ (fun a ha => hF a (List.mem_cons_of_mem _ ha)) (by simpa [oflat] using n) ho)
  | .t ts, v, F, hF, n, o => by
    cases o with
    | t hl ho =>
      refine .t ?_ (Owns.flat h ts _ _ hF (by simpa [oflat] using n) ho)
      obtain ⟨n1, q1⟩ := fz_some hl
      rcases h _ _ n1 q1 with z | ⟨xs, z⟩ | ⟨C, dx, fs, z⟩
      · rw [fz_of z]; exact q1
      · cases z
      · cases z
  | .ob p C ks ts, v, F, hF, n, o => by simp [oflat] at n
  | .la p ts, v, F, hF, n, o => by simp [oflat] at n
theorem Owns.flat {K : PySem.W.Frag} {W W' : List Addr} {H : Hp} (h : ∀ a o, a ∉ W' → H a = some o → a ∉ W ∨ OwO o) : ∀ (xs : List OT) (vs : List V) (F : List Addr), (∀ a ∈ F, a ∈ W) → oflats xs = true → Owns K W' H vs xs F → Owns K W H vs xs F
  | [], _, _, hF, n, o => by cases o; exact .nil
  | x :: xs, _, _, hF, n, o => by
    have n' : oflat x = true ∧ oflats xs = true := by simpa [oflats] using n
    cases o with
    | cons o1 o2 => exact .cons (Own.flat h x _ _ (fun a ha => hF a (List.mem_append_left _ ha)) n'.1 o1) (Owns.flat h xs _ _ (fun a ha => hF a (List.mem_append_right _ ha)) n'.2 o2)
end
theorem dn_borrowO {X : Cx} {E E' : List Sl} {e : Expr} {t u : OT} (i : Nat) (g : E[i]? = some (.o t)) (hE : E.set i (.o (.d t.dat)) = E') (h : DN X E' e u) (hf : oflat u = true) : DN X E e u := by
  obtain ⟨te, e1, e2⟩ := h
  subst hE
  refine ⟨te, e1, fun M L H σ Q I k => ?_⟩
  obtain ⟨L', I', _, h1, h2⟩ := I.freeze g
  refine e2 M L' H σ Q I' fun v H' F s nF hF o => k v H' F s nF hF (Own.flat (fun a o n q => ?_) _ _ _ (fun a ha => List.mem_append_left _ ha) hf o)
  have n1 : a ∉ F := fun z => n (List.mem_append_left _ z)
  have n2 : a ∉ L' ++ M := fun z => n (List.mem_append_right _ z)
  rcases flat_back (K := X.K) s h1 h2 a o n2 q with z | z
  · exact .inl fun m => (List.mem_append.mp m).elim n1 z
  · exact .inr z
theorem oflats_map {α : Type} {g : α → OT} (h : ∀ y, oflat (g y) = true) : ∀ ys : List α, oflats (ys.map g) = true
  | [] => rfl
  | y :: ys => by
    show (oflat (g y) && oflats (ys.map g)) = true
    rw [h y, oflats_map h ys]
    rfl
/-! ### two typed things told alike -/
structure EqE {α : Type} [DecidableEq α] (n : Nat) (f : α → PyData) : Prop where
  nd : ∀ a, noDict (f a) = true
  lay : ∀ a, (f a).canLay0 = true
  dep : ∀ a, (f a).depth ≤ n
  eq : ∀ a b, PyData.eqv (f a) (f b) = decide (a = b)
instance {α β γ : Type} [DecidableEq α] [DecidableEq β] [DecidableEq γ] : DecidableEq (T3 α β γ) := fun x y => decidable_of_iff (x.a = y.a ∧ x.b = y.b ∧ x.c = y.c) (by cases x; cases y; simp)
instance {α β γ δ : Type} [DecidableEq α] [DecidableEq β] [DecidableEq γ] [DecidableEq δ] : DecidableEq (T4 α β γ δ) := fun x y => decidable_of_iff (x.a = y.a ∧ x.b = y.b ∧ x.c = y.c ∧ x.d = y.d) (by cases x; cases y; simp)
instance {α β γ δ ε : Type} [DecidableEq α] [DecidableEq β] [DecidableEq γ] [DecidableEq δ] [DecidableEq ε] : DecidableEq (T5 α β γ δ ε) := fun x y => decidable_of_iff (x.a = y.a ∧ x.b = y.b ∧ x.c = y.c ∧ x.d = y.d ∧ x.e = y.e) (by cases x; cases y; simp)
theorem eqE_int : EqE 0 PyData.int := ⟨fun _ => rfl, fun _ => rfl, fun _ => Nat.le_refl 0, fun a b => by
  show (a == b) = decide (a = b)
  rfl⟩
theorem eqE_bool : EqE 0 PyData.bool := ⟨fun _ => rfl, fun _ => rfl, fun _ => Nat.le_refl 0, fun a b => by
  show (a == b) = decide (a = b)
  cases a <;> cases b <;> rfl⟩
theorem eqE_P {α β : Type} [DecidableEq α] [DecidableEq β] {m n : Nat} {f : α → PyData} {g : β → PyData} (hf : EqE m f) (hg : EqE n g) : EqE (max m n + 1) (eP f g) := by
  refine ⟨fun p => ?_, fun p => ?_, fun p => ?_, fun p q => ?_⟩
  · show (noDict (f p.1) && (noDict (g p.2) && true)) = true
    rw [hf.nd, hg.nd]; rfl
  · show ((f p.1).canLay0 && ((g p.2).canLay0 && true)) = true
    rw [hf.lay, hg.lay]; rfl
  · have h1 := hf.dep p.1
    have h2 := hg.dep p.2
    show max (f p.1).depth (max (g p.2).depth 0) + 1 ≤ _
    omega
  · show (PyData.eqv (f p.1) (f q.1) && (PyData.eqv (g p.2) (g q.2) && true)) = decide (p = q)
    rw [hf.eq, hg.eq, Bool.and_true]
    obtain ⟨a, b⟩ := p
    obtain ⟨c, d⟩ := q
    rw [← Bool.decide_and, decide_eq_decide]
    simp
theorem eqE_T5 {α β γ δ ε : Type} [DecidableEq α] [DecidableEq β] [DecidableEq γ] [DecidableEq δ] [DecidableEq ε] {m n o p q : Nat} {f : α → PyData} {g : β → PyData} {h : γ → PyData} {k : δ → PyData} {l : ε → PyData} (hf : EqE m f) (hg : EqE n g) (hh : EqE o h) (hk : EqE p k) (hl : EqE q l) : EqE (m + n + o + p + q + 1) (eT5 f g h k l) := by
  refine ⟨fun p => ?_, fun p => ?_, fun p => ?_, fun x y => ?_⟩
  · show (noDict (f p.a) && (noDict (g p.b) && (noDict (h p.c) && (noDict (k p.d) && (noDict (l p.e) && true))))) = true
    rw [hf.nd, hg.nd, hh.nd, hk.nd, hl.nd]; rfl
  · show ((f p.a).canLay0 && ((g p.b).canLay0 && ((h p.c).canLay0 && ((k p.d).canLay0 && ((l p.e).canLay0 && true))))) = true
    rw [hf.lay, hg.lay, hh.lay, hk.lay, hl.lay]; rfl
  · have h1 := hf.dep p.a
    have h2 := hg.dep p.b
    have h3 := hh.dep p.c
    have h4 := hk.dep p.d
    have h5 := hl.dep p.e
    show max (f p.a).depth (max (g p.b).depth (max (h p.c).depth (max (k p.d).depth (max (l p.e).depth 0)))) + 1 ≤ _
    omega
  · show (PyData.eqv (f x.a) (f y.a) && (PyData.eqv (g x.b) (g y.b) && (PyData.eqv (h x.c) (h y.c) && (PyData.eqv (k x.d) (k y.d) && (PyData.eqv (l x.e) (l y.e) && true))))) = decide (x = y)
    rw [hf.eq, hg.eq, hh.eq, hk.eq, hl.eq, Bool.and_true]
    obtain ⟨a, b, c, d, e⟩ := x
    obtain ⟨a', b', c', d', e'⟩ := y
    rw [← Bool.decide_and, ← Bool.decide_and, ← Bool.decide_and, ← Bool.decide_and, decide_eq_decide]
    simp
theorem eqE_L {α : Type} [DecidableEq α] {n : Nat} {f : α → PyData} (hf : EqE n f) : EqE (n + 1) (eL f) := by
  refine ⟨fun xs => ?_, fun xs => ?_, fun xs => ?_, fun xs ys => ?_⟩
  · show noDicts (xs.map f) = true
    induction xs with
    | nil => rfl
    | cons x xs ih =>
      show (noDict (f x) && noDicts (xs.map f)) = true
      rw [hf.nd, ih]; rfl
  · show PyData.canLayAll0 (xs.map f) = true
    induction xs with
    | nil => rfl
    | cons x xs ih =>
      show ((f x).canLay0 && PyData.canLayAll0 (xs.map f)) = true
      rw [hf.lay, ih]; rfl
  · show PyData.depthAll (xs.map f) + 1 ≤ n + 1
    have : PyData.depthAll (xs.map f) ≤ n := by
      induction xs with
      | nil => exact Nat.zero_le _
      | cons x xs ih =>
        show max (f x).depth (PyData.depthAll (xs.map f)) ≤ n
        have := hf.dep x
        omega
    omega
  · show PyData.eqvAll (xs.map f) (ys.map f) = decide (xs = ys)
    induction xs generalizing ys with
    | nil => cases ys <;> rfl
    | cons x xs ih =>
      cases ys with
      | nil => rfl
      | cons y ys =>
        show (PyData.eqv (f x) (f y) && PyData.eqvAll (xs.map f) (ys.map f)) = _
        rw [hf.eq, ih, ← Bool.decide_and, decide_eq_decide]
        simp
theorem EqE.shaped {α : Type} [DecidableEq α] {n : Nat} {f : α → PyData} (h : EqE n f) (hn : n ≤ 64) (a : α) : SeqAt.shaped (f a) = true := by
  unfold SeqAt.shaped
  rw [h.lay a, decide_eq_true (Nat.le_trans (h.dep a) hn)]
  rfl
section
variable {X : Cx} {E : List Sl} {a b : Expr} {pos : Pos} {α : Type} [DecidableEq α] {n : Nat} {f : α → PyData} {x y : α}
theorem dt_neT (hu : X.A.units + 64 < cLine) (h : EqE n f) (ha : DE X E a (f x)) (hb : DE X E b (f y)) (hn : Nat.ble n 64 = true := by rfl) : DT X E (.Compare a [.NotEq] [b] pos) (!decide (x = y)) :=
  h.eq x y ▸ dt_neD hu ha hb (h.nd x) (h.nd y) (h.shaped (Nat.le_of_ble_eq_true hn) x) (h.shaped (Nat.le_of_ble_eq_true hn) y)
end
end D

end

section
set_option Elab.async false
set_option linter.all false
set_option autoImplicit false
set_option maxRecDepth 100000
set_option maxHeartbeats 2000000
namespace D
open PySem L2 PySem.Spec PyProof.Rows
/-! ### zip of three lists -/
section
variable {X : Cx} {E : List Sl} {a b c : Expr} {pos : Pos} {α β γ : Type} {f : α → PyData} {g : β → PyData} {h : γ → PyData} {xs : List α} {ys : List β} {zs : List γ}
end
end D

end

section
set_option Elab.async false
set_option linter.all false
set_option autoImplicit false
set_option maxRecDepth 100000
set_option maxHeartbeats 2000000
namespace D
open PySem L2 PySem.Spec PyProof.Rows
abbrev oPL {α β : Type} (f : α → PyData) (g : β → PyData) : α × List β → OT := oP (oD f) (oL g)
theorem dat_PL {α β : Type} (f : α → PyData) (g : β → PyData) : Dat (oPL f g) (eP f (eL g)) := dat_P (dat_D f) (dat_L g)
theorem oflat_L {β : Type} {g : β → PyData} (h : ∀ y, flat (g y) = true) (ys : List β) : oflat (oL g ys) = true := by
  rw [oL_eq]
  exact oflats_map (g := oD g) (fun y => h y) ys
section
variable {X : Cx} {W : WX} {E E' : List Sl} {a b c e : Expr} {pos : Pos} {α β γ : Type} {f : α → PyData} {g : β → PyData} {h : γ → PyData} {x : α} {y : β} {ys : List β} {v : α × List β} {P : Out → Prop} {z : PyData} {t : Bool}
theorem dn_pair {k} (ha : DE X E a (f x)) (hb : DN X E b (oL g ys)) (hs1 : starEach [a, b] X.env = (false, eval a X.env) :: starEach [b] X.env := by rfl) (hs2 : starEach [b] X.env = (false, eval b X.env) :: starEach [] X.env := by rfl) : DN X E (.Tuple [a, b] k pos) (oPL f g (x, ys)) :=
  dn_tupO (dna_cons ha.toN (dna_cons hb dna_nil hs2) hs1)
theorem DN.toPL (h : DN X E e (oPL f g v)) : DE X E e (eP f (eL g) v) := DN.toS (dat_PL f g) h
theorem dn_borrowG {δ : Type} {o : δ → OT} {d : δ → PyData} {w : δ} {u : OT} (i : Nat) (D0 : Dat o d) (hg : E[i]? = some (.o (o w))) (h : DN X (E.set i (.o (.d (d w)))) e u) (hf : oflat u = true) : DN X E e u := dn_borrowO i hg (by rw [D0 w]) h hf
/-- x[:k] of a tuple, not the whole -/
theorem de_cutT {xs : List PyData} {lo hi : Option Expr} {ol oh : Option Int} {p2 : Pos} (ha : DE X E a (.tuple xs)) (hl : DO X E lo ol) (hh : DO X E hi oh) (hn : ¬ (HT.sIx xs.length 0 ol = 0 ∧ HT.sIx xs.length xs.length oh = xs.length)) : DE X E (.Subscript a (.Slice lo hi none p2) pos) (.tuple (cutG xs ol oh)) := by
  obtain ⟨ta, a1, a2⟩ := ha
  obtain ⟨tl, l1, l2⟩ := hl
  obtain ⟨th, h1, h2⟩ := hh
  refine ⟨_, pe_slice sl_tup a1 l1 h1, fun M L H σ Q I k => a2 M L H σ _ I fun v H1 s1 r1 => l2 M L H1 σ _ (I.same s1) fun H2 s2 => h2 M L H2 σ _ (I.same (s1.trans s2)) fun H3 s3 => ?_⟩
  cases R.same (fz_same (s2.trans s3)) _ _ r1 with
  | tup hs hr =>
    rename_i q vs
    have hl := hr.length
    refine ⟨q, vs, rfl, same_t fz_sub hs, by rw [hl]; exact hn, fun p hp => ?_⟩
    have s03 := (s1.trans s2).trans s3
    have sp : Same H3 (upd H3 p (.tup (cutV vs ol oh))) := same_new hp
    have np : p ∉ L ++ M := fun z => (I.same s03).dom p z hp
    refine k _ _ (s03.trans sp) (.tup (.inl (.inl (by rw [fz_of np]; exact upd_same))) (RA.same (fz_same sp) _ _ hr.cut))
end
/-! ### data that is a fraction -/
def isFrD : PyData → Bool
  | .tuple [.int _, .int _] => true
  | _ => false
def asFr : PyData → Fr
  | .tuple [.int a, .int b] => (a, b)
  | _ => (0, 1)
theorem asFr_eq {x : PyData} (h : isFrD x = true) : x = eP .int .int (asFr x) := by
  unfold isFrD at h
  split at h
  · rfl
  · cases h
theorem frD_mk {x : PyData} (h1 : isTuple x = true) (h2 : pyLen x = 2) (h3 : isWhole (gx (elems x) 0) = true) (h4 : isWhole (gx (elems x) 1) = true) : isFrD x = true := by
  cases x with
  | tuple xs =>
    have h2' : xs.length = 2 := by
      have : ((xs.length : Nat) : Int) = 2 := h2
      omega
    match xs, h2' with
    | [p, q], _ =>
      have e3 : isWhole p = true := h3
      have e4 : isWhole q = true := h4
      rw [isWhole_eq e3, isWhole_eq e4]
      rfl
  | _ => cases h1
section
variable {X : Cx} {E : List Sl} {a b : Expr} {pos p2 : Pos} {α β γ δ ε : Type} {f : α → PyData} {g : β → PyData} {h : γ → PyData} {k : δ → PyData} {l : ε → PyData}
theorem de_cut52 {v : T5 α β γ δ ε} (ha : DE X E a (eT5 f g h k l v)) (hb : DE X E b (.int 2)) : DE X E (.Subscript a (.Slice none (some b) none p2) pos) (eP f g (v.a, v.b)) := de_cutT ha do_non (do_som hb) (by show ¬ (HT.sIx 5 0 none = 0 ∧ HT.sIx 5 5 (some 2) = 5); decide)
end
theorem eL_any {α : Type} (f : α → PyData) (xs : List α) : eL f xs = eL eA (xs.map f) := by
  have e : (xs.map f).map eA = xs.map f := List.map_id _
  show PyData.list _ = PyData.list ((xs.map f).map eA)
  rw [e]
theorem cutG_len {α : Type} (xs : List α) (lo hi : Option Int) : (cutG xs lo hi).length ≤ xs.length := by
  unfold cutG
  rw [List.length_take, List.length_drop]
  omega
/-- two things told alike, kept out of the simplifier's sight -/
def eqD {α : Type} [DecidableEq α] (a b : α) : Bool := decide (a = b)
theorem eqD_t {α : Type} [DecidableEq α] {a b : α} : (eqD a b = true) = (a = b) := propext (decide_eq_true_iff)
theorem eqD_f {α : Type} [DecidableEq α] {a b : α} : (eqD a b = false) = ¬ (a = b) := propext (decide_eq_false_iff_not)
theorem eqD_self {α : Type} [DecidableEq α] (a : α) : eqD a a = true := decide_eq_true rfl
section
variable {X : Cx} {E : List Sl} {a b : Expr} {pos : Pos} {α : Type} [DecidableEq α] {n : Nat} {f : α → PyData} {x y : α}
theorem dt_neU (hu : X.A.units + 64 < cLine) (h : EqE n f) (ha : DE X E a (f x)) (hb : DE X E b (f y)) (hn : Nat.ble n 64 = true := by rfl) : DT X E (.Compare a [.NotEq] [b] pos) (!eqD x y) := dt_neT hu h ha hb hn
end
end D

end

section
set_option Elab.async false
set_option linter.all false
set_option autoImplicit false
set_option maxRecDepth 100000
set_option maxHeartbeats 2000000
namespace D
open PySem L2 PySem.Spec PyProof.Rows
/-! ### two readings of the same data are equal, empty dicts within or not -/
mutual
/-- no instance within -/
def noIns : PyData → Bool
  | .dict kvs => kvs.isEmpty
  | .list ds => noInss ds
  | .tuple ds => noInss ds
  | _ => true
def noInss : List PyData → Bool
  | [] => true
  | d :: ds => noIns d && noInss ds
end
theorem sdict {P P' : Program} {w w' : World} {h : Heap} {a : Addr} (x : h.DictOf (mixKind P w) a []) : h.DictOf (mixKind P' w') a [] := by
  obtain ⟨o, es, ep, h1, h2, h3, h4, h5, h6⟩ := x
  have e : es = #[] := by
    have := h5.length
    exact Array.eq_empty_of_size_eq_zero (by simpa using this)
  subst e
  exact ⟨o, #[], ep, h1, h2, h3, fun e he => by simp at he, .nil, List.nodup_nil⟩
theorem rc_dict0 {P : Program} {w : World} {A : Around} {s : Shared} {a b : Addr} (ha : (a == sysModules) = false) (hb : (b == sysModules) = false) (da : s.heap.DictOf (mixKind P w) a []) (db : s.heap.DictOf (mixKind P w) b []) (hu : A.units < cLine) : SeqAt.RcAt A s (.ref a) (.ref b) true :=
  fun prog w' E Q q => PySem.W.rcP_dicts (knd := mixKind prog w') (ka := []) (kb := []) (r := true) ha hb (sdict da) (sdict db) hu (fun _ => .nil) E Q q
theorem all_true (n : Nat) : ((List.range n).all fun _ => true) = true := List.all_eq_true.mpr fun _ _ => rfl
section
variable {X : Cx} {pins : List (Addr × Obj)} {σ : L2.St} {H : Hp} {s : Shared}
mutual
theorem same_run (I : Inv X pins σ H s) : ∀ (d : PyData) (A : Around) (v w : V) (u1 u2 : Value), R X.K H v d → R X.K H w d → noIns d = true → A.units + d.depth < cLine → RelV v u1 → RelV w u2 → SeqAt.EqAt A s u1 u2 true
  | .none, A, _, _, _, _, r1, r2, _, _, h1, h2 => by
    cases r1; cases r2; cases h1; cases h2
    exact SeqAt.EqAt.same _
  | .bool b, A, _, _, _, _, r1, r2, _, _, h1, h2 => by
    cases r1; cases r2; cases h1; cases h2
    exact SeqAt.EqAt.same _
  | .int i, A, _, _, _, _, r1, r2, _, _, h1, h2 => by
    cases r1; cases r2
    obtain ⟨t, rfl⟩ := h1
    obtain ⟨t', rfl⟩ := h2
    have := SeqAt.EqAt.int_int (A := A) (s := s) i t i t'
    rwa [show (i == i) = true from beq_self_eq_true i] at this
  | .str x, A, _, _, _, _, r1, r2, _, _, h1, h2 => by
    cases r1; cases r2
    obtain ⟨t, rfl⟩ := h1
    obtain ⟨t', rfl⟩ := h2
    have := SeqAt.EqAt.str_str (A := A) (s := s) x t x t'
    rwa [show (x == x) = true from beq_self_eq_true x] at this
  | .list ds, A, _, _, _, _, r1, r2, ok, hu, h1, h2 => by
    cases r1 with
    | @lst a xs _ s1 a1 =>
    cases r2 with
    | @lst b ys _ s2 a2 =>
      cases h1; cases h2
      obtain ⟨us, v1, p1, _⟩ := I.list s1
      obtain ⟨ws, v2, p2, _⟩ := I.list s2
      have hu1 : A.units + (PyData.depthAll ds + 1) < cLine := hu
      have e1 := a1.length
      have e2 := a2.length
      have e3 := v1.length
      have e4 := v2.length
      by_cases e : a = b
      · subst e; exact SeqAt.EqAt.same _
      · refine SeqAt.EqAt.of_refs e ?_
        have := SeqAt.RcAt.lists (e := fun _ => true) (A := A) p1.isList p2.isList (by simp; omega) (by omega) fun j j1 j2 => by
          have := same_runs I ds A.in1 _ _ _ _ a1 a2 (by simpa [noIns] using ok) (by show A.units + 1 + _ < _; omega) v1 v2 j (by simpa using j1) (by simpa using j2)
          simpa using this
        rwa [all_true] at this
  | .tuple ds, A, _, _, _, _, r1, r2, ok, hu, h1, h2 => by
    cases r1 with
    | @tup a xs _ s1 a1 =>
    cases r2 with
    | @tup b ys _ s2 a2 =>
      cases h1; cases h2
      obtain ⟨us, v1, p1, _⟩ := I.tuple s1
      obtain ⟨ws, v2, p2, _⟩ := I.tuple s2
      have hu1 : A.units + (PyData.depthAll ds + 1) < cLine := hu
      have e1 := a1.length
      have e2 := a2.length
      have e3 := v1.length
      have e4 := v2.length
      by_cases e : a = b
      · subst e; exact SeqAt.EqAt.same _
      · refine SeqAt.EqAt.of_refs e ?_
        obtain ⟨o1, ho1, hc1, n1, hd1⟩ := p1
        obtain ⟨o2, ho2, hc2, n2, hd2⟩ := p2
        have := SeqAt.RcAt.tuples (e := fun _ => true) (A := A) ⟨o1, ho1, hc1, n1, hd1⟩ ⟨o2, ho2, hc2, n2, hd2⟩ (by omega) fun j j1 j2 => by
          have := same_runs I ds A.in1 _ _ _ _ a1 a2 (by simpa [noIns] using ok) (by show A.units + 1 + _ < _; omega) v1 v2 j (by simpa using j1) (by simpa using j2)
          simpa using this
        rw [all_true, Bool.true_and] at this
        rwa [show (us.toArray.size == ws.toArray.size) = true from by rw [beq_iff_eq]; simp; omega] at this
  | .dict kvs, A, _, _, _, _, r1, r2, ok, hu, h1, h2 => by
    cases r1 with
    | ins => exact Bool.noConfusion ok
    | exc => exact Bool.noConfusion ok
    | obj => exact Bool.noConfusion ok
    | @dict0 a s1 =>
    cases r2 with
    | @dict0 b s2 =>
      cases h1; cases h2
      obtain ⟨_, ya, va, ra, da⟩ := (show ObjOk X.prog X.w H s.heap a (.dK []) from I.hok a _ s1)
      obtain ⟨_, yb, vb, rb, db⟩ := (show ObjOk X.prog X.w H s.heap b (.dK []) from I.hok b _ s2)
      cases ra; cases rb
      by_cases e : a = b
      · subst e; exact SeqAt.EqAt.same _
      · exact SeqAt.EqAt.of_refs e (rc_dict0 ya yb da db (by omega))
theorem same_runs (I : Inv X pins σ H s) : ∀ (ds : List PyData) (A : Around) (vs ws : List V) (us1 us2 : List Value), RA X.K H vs ds → RA X.K H ws ds → noInss ds = true → A.units + PyData.depthAll ds < cLine → Vals vs us1 → Vals ws us2 → ∀ j (h1 : j < us1.length) (h2 : j < us2.length), SeqAt.EqAt A s us1[j] us2[j] true
  | [], _, _, _, _, _, r1, r2, _, _, h1, h2, j, l1, l2 => by
    cases r1; cases h1; exact absurd l1 (Nat.not_lt_zero j)
  | d :: ds, A, _, _, _, _, r1, r2, ok, hu, h1, h2, j, l1, l2 => by
    have hu1 : A.units + max d.depth (PyData.depthAll ds) < cLine := hu
    have ok' : noIns d = true ∧ noInss ds = true := by simpa [noInss] using ok
    cases r1 with
    | cons q1 q2 =>
    cases r2 with
    | cons q3 q4 =>
    cases h1 with
    | cons k1 k2 =>
    cases h2 with
    | cons k3 k4 =>
    cases j with
    | zero => exact same_run I d A _ _ _ _ q1 q3 ok'.1 (by omega) k1 k3
    | succ j => exact same_runs I ds A _ _ _ _ q2 q4 ok'.2 (by omega) k2 k4 j (Nat.lt_of_succ_lt_succ l1) (Nat.lt_of_succ_lt_succ l2)
end
end
section
variable {X : Cx} {E : List Sl} {a b : Expr} {pos : Pos} {xs ys : List PyData}
end
end D

end

section
set_option Elab.async false
set_option linter.all false
set_option autoImplicit false
set_option maxRecDepth 100000
set_option maxHeartbeats 2000000
namespace D
open PySem L2 PySem.Spec PyProof.Rows
section
variable {X : Cx} {E : List Sl} {a b : Expr} {pos nm : Pos} {xs ys : List PyData}
/-- t + u -/
theorem de_catT (ha : DE X E a (.tuple xs)) (hb : DE X E b (.tuple ys)) (h1 : xs ≠ [] := by exact List.cons_ne_nil _ _) (h2 : ys ≠ [] := by exact List.cons_ne_nil _ _) (hl : Nat.ble (xs.length + ys.length) sizeLine = true := by rfl) : DE X E (.BinOp a .Add b pos) (.tuple (xs ++ ys)) := by
  obtain ⟨ta, a1, a2⟩ := ha
  obtain ⟨tb, b1, b2⟩ := hb
  refine ⟨_, pe_op op_catT a1 b1, fun M L H σ Q I k => a2 M L H σ _ I fun v H1 s1 r1 => b2 M L H1 σ _ (I.same s1) fun w H2 s2 r2 => ?_⟩
  cases R.same (fz_same s2) _ _ r1 with
  | @tup q1 vs1 _ hs hr =>
    cases r2 with
    | @tup q2 vs2 _ hs2 hr2 =>
      have e1 := hr.length
      have e2 := hr2.length
      refine ⟨_, _, _, _, rfl, rfl, same_t fz_sub hs, same_t fz_sub hs2, ?_, ?_, ?_, fun _ p hp => ?_⟩
      · intro z; subst z; exact h1 (List.eq_nil_of_length_eq_zero e1.symm)
      · rw [e1, e2]; exact Nat.le_of_ble_eq_true hl
      · intro z; subst z; exact absurd (List.eq_nil_of_length_eq_zero e2.symm) h2
      have sp : Same H2 (upd H2 p (.tup (vs1 ++ vs2))) := same_new hp
      have np : p ∉ L ++ M := fun z => ((I.same s1).same s2).dom p z hp
      exact k _ _ ((s1.trans s2).trans sp) (.tup (.inl (.inl (by rw [fz_of np]; exact upd_same))) (RA.same (fz_same sp) _ _ (hr.append hr2)))
end
/-! ### lists of two unlike things -/
abbrev eH {α β : Type} (f : α → PyData) (g : β → PyData) (p : α × β) : PyData := .list [f p.1, g p.2]
section
variable {X : Cx} {E : List Sl} {a b c : Expr} {pos : Pos} {α β : Type} {f : α → PyData} {g : β → PyData} {v : α × β} {x : α} {y : β} {xs : List PyData}
theorem de_ixH0 (ha : DE X E a (eH f g v)) (hb : DE X E b (.int 0)) (h : PlainIx b := by exact fun _ _ => rfl) : DE X E (.Subscript a b pos) (f v.1) := de_ix ha hb rfl h
theorem de_ixH1 (ha : DE X E a (eH f g v)) (hb : DE X E b (.int 1)) (h : PlainIx b := by exact fun _ _ => rfl) : DE X E (.Subscript a b pos) (g v.2) := de_ix ha hb rfl h
theorem de_hl (h : DA X E [a, b] [f x, g y]) : DE X E (.List [a, b] pos) (eH f g (x, y)) := (dn_lst h).toE
end
end D

end

section
set_option Elab.async false
set_option linter.all false
set_option autoImplicit false
set_option maxRecDepth 100000
set_option maxHeartbeats 2000000
namespace D
open PySem L2 PySem.Spec PyProof.Rows
/-! ### xs[lo:hi:step] -/
def pickG {α : Type} (xs : List α) (lo hi : Option Int) (st : Int) : List α :=
  (sliceRange (sliceBounds lo hi (some st) xs.length).1 (sliceBounds lo hi (some st) xs.length).2.1 (sliceBounds lo hi (some st) xs.length).2.2).filterMap (xs[·]?)
theorem pickG_map {α β : Type} (f : α → β) (xs : List α) (lo hi : Option Int) (st : Int) : pickG (xs.map f) lo hi st = (pickG xs lo hi st).map f := by
  unfold pickG
  rw [List.length_map, List.map_filterMap]
  congr 1
  funext i
  rw [List.getElem?_map]
theorem vals_get : ∀ {vs : List V} {us : List Value}, Vals vs us → ∀ i : Nat, (vs[i]? = none ∧ us[i]? = none) ∨ ∃ v u, vs[i]? = some v ∧ us[i]? = some u ∧ RelV v u
  | [], us, h, i => by cases h; exact .inl ⟨by simp, by simp⟩
  | v :: vs, us, h, i => by
    cases h with
    | @cons _ u _ us h1 h2 =>
      cases i with
      | zero => exact .inr ⟨v, u, by simp, by simp, h1⟩
      | succ i => simpa using vals_get h2 i
theorem Vals.fm {vs : List V} {us : List Value} (h : Vals vs us) : ∀ is : List Nat, Vals (is.filterMap (vs[·]?)) (is.filterMap (us[·]?))
  | [] => .nil
  | i :: is => by
    rcases vals_get h i with ⟨e1, e2⟩ | ⟨v, u, e1, e2, r⟩
    · rw [List.filterMap_cons_none e1, List.filterMap_cons_none e2]
      exact Vals.fm h is
    · rw [List.filterMap_cons_some e1, List.filterMap_cons_some e2]
      exact .cons r (Vals.fm h is)
theorem Vals.pick {vs : List V} {us : List Value} (h : Vals vs us) (lo hi : Option Int) (st : Int) : Vals (pickG vs lo hi st) (slicePick us.toArray lo hi (some st)).toList := by
  have e : us.toArray.size = vs.length := by rw [List.size_toArray, h.length]
  unfold pickG slicePick
  rw [e]
  have e2 : (fun i : Nat => us.toArray[i]?) = (fun i : Nat => us[i]?) := by funext i; simp
  rw [e2]
  exact Vals.fm h _
theorem RA.pick {K : PySem.W.Frag} {H : Hp} {ds : List PyData} {vs : List V} (h : RA K H vs ds) (lo hi : Option Int) (st : Int) : RA K H (pickG vs lo hi st) (pickG ds lo hi st) := by
  have key : ∀ is : List Nat, RA K H (is.filterMap (vs[·]?)) (is.filterMap (ds[·]?)) := by
    intro is
    induction is with
    | nil => exact .nil
    | cons i is ih =>
      cases q : ds[i]? with
      | none =>
        have : vs[i]? = none := by
          rw [List.getElem?_eq_none_iff] at q ⊢
          rw [h.length]; exact q
        rw [List.filterMap_cons_none q, List.filterMap_cons_none this]
        exact ih
      | some x =>
        obtain ⟨v, e, r⟩ := h.get q
        rw [List.filterMap_cons_some q, List.filterMap_cons_some e]
        exact .cons r ih
  unfold pickG
  rw [h.length]
  exact key _
theorem pick_le {its : List Value} {vs : List V} (h : Vals vs its) (lo hi : Option Int) (st : Int) : (pickG vs lo hi st).length ≤ vs.length := by
  have h1 := (Vals.pick h lo hi st).length
  have h2 := slicePick_size_le its.toArray lo hi (some st)
  have h3 := h.length
  have h5 : its.toArray.size = its.length := List.size_toArray ..
  have h4 : (slicePick its.toArray lo hi (some st)).toList.length = (slicePick its.toArray lo hi (some st)).size := Array.length_toList
  omega
def tCutS (K : PySem.W.Frag) (te : TE) (tl th : TO) (st : Int) : TE := fun σ H Q => te σ H fun x H1 => tl σ H1 fun l H2 => th σ H2 fun u H3 => ∃ a xs, x = .ref a ∧ SqL K H3 a xs ∧ ∀ p, H3 p = none → Q (.ref p) (upd H3 p (.lst (pickG xs l u st)))
theorem pe_cutS {X : Cx} {e : Expr} {te : TE} {lo hi : Option Expr} {tl th : TO} {j : Nat} {p1 p3 pos : Pos} {st : Int} (he : PE X e te) (hl : PO X lo tl) (hh : PO X hi th) (h0 : st ≠ 0) : PE X (.Subscript e (.Slice lo hi (some (.Constant (.int st) j p1)) p3) pos) (tCutS X.K te tl th st) := by
  refine ⟨fun pins s σ H Q I h => ?_⟩
  refine Subscript_ (thn (he.run pins s σ H _ I h) fun v s1 ⟨x, H1, I1, r1, q1⟩ => ?_)
  have hst : PO X (some (.Constant (.int st) j p1)) (tPart (tC (.int st))) := po_some pe_int
  refine wpAny_Slice (thn (hl.run pins s1 σ H1 _ I1 q1) fun vl s2 ⟨l, H2, I2, pl, q2⟩ => thn (hh.run pins s2 σ H2 _ I2 q2) fun vu s3 ⟨u, H3, I3, pu, q3⟩ => ?_)
  obtain ⟨a, xs, ex, hx, q⟩ := q3
  subst ex
  cases r1
  refine thn (hst.run pins s3 σ H3 (fun o H4 => o = some st ∧ H4 = H3) I3 ⟨st, rfl, rfl, rfl⟩) fun vs s4 ⟨o, H4, I4, ps, eo, e4⟩ => ?_
  subst eo e4
  have I5 : Inv X pins σ H4 { s4 with heap := s4.heap.push { cls := .type "slice", data := .fields #[vl, vu, vs] } } := I4.kept (t' := s4.toks) fun b ob q => Heap.get?_push_of_some _ q
  obtain ⟨its, r, ht, hz⟩ := I5.list hx
  have hlen := r.length
  show wpAny (model X.prog X.w) X.A (subscriptTail e (.Slice lo hi (some (.Constant (.int st) j p1)) p3) (.ref a) (.ref s4.heap.objs.size)) (EP X pins σ Q) X.xe { s4 with heap := s4.heap.push { cls := .type "slice", data := .fields #[vl, vu, vs] } }
  refine tail_any (ops := [.ref a, .ref s4.heap.objs.size]) ht.isList.typeIs (PySem.slot_list_getitem.lookup) ?_ (by with_unfolding_all rfl)
  refine wpAny_getItem_list_slice ht.isList (Heap.IsSliceOf.new _ vl vu vs) pl pu ps (fun z => h0 (Option.some.inj z)) ?_ (by rw [List.size_toArray]; omega)
  refine ⟨.ref _, _, I5.laid (t' := s4.toks) (o := .lst (pickG xs l u st)) (fun b ob q => Heap.get?_push_of_some _ q) (Nat.le_refl _) ?_, rfl, q _ (I5.hok.fresh (Nat.le_refl _))⟩
  refine ⟨Nat.le_trans (pick_le r l u st) hz, (slicePick its.toArray l u (some st)).toList, 0, Vals.pick r l u st, ?_⟩
  rw [Array.toArray_toList]
  exact Heap.get?_push_size _ rfl
section
variable {X : Cx} {E : List Sl} {a : Expr} {pos : Pos} {xs : List PyData} {α : Type} {f : α → PyData}
theorem dn_cutS {lo hi : Option Expr} {ol oh : Option Int} {j : Nat} {st : Int} {p1 p2 : Pos} (ha : DE X E a (.list xs)) (hl : DO X E lo ol) (hh : DO X E hi oh) (h0 : st ≠ 0) : DN X E (.Subscript a (.Slice lo hi (some (.Constant (.int st) j p1)) p2) pos) (.l ((pickG xs ol oh st).map .d)) := by
  obtain ⟨ta, a1, a2⟩ := ha
  obtain ⟨tl, l1, l2⟩ := hl
  obtain ⟨th, h1, h2⟩ := hh
  refine ⟨_, pe_cutS a1 l1 h1 h0, fun M L H σ Q I k => a2 M L H σ _ I fun v H1 s1 r1 => l2 M L H1 σ _ (I.same s1) fun H2 s2 => h2 M L H2 σ _ (I.same (s1.trans s2)) fun H3 s3 => ?_⟩
  cases R.same (fz_same (s2.trans s3)) _ _ r1 with
  | lst hs hr => exact ⟨_, _, rfl, fz_sub.seq hs, fun p hp => own_new I ((s1.trans s2).trans s3) (hr.pick ol oh st) hp k⟩
theorem dn_cutSL {xs : List α} {lo hi : Option Expr} {ol oh : Option Int} {j : Nat} {st : Int} {p1 p2 : Pos} (ha : DE X E a (eL f xs)) (hl : DO X E lo ol) (hh : DO X E hi oh) (h0 : st ≠ 0) : DN X E (.Subscript a (.Slice lo hi (some (.Constant (.int st) j p1)) p2) pos) (oL f (pickG xs ol oh st)) := by
  have h := dn_cutS (j := j) (p1 := p1) (p2 := p2) (pos := pos) ha hl hh h0
  rw [pickG_map] at h
  exact h
end
/-! ### isinstance(x, (tuple, list)) -/
def isSeq : PyData → Bool
  | .tuple _ => true
  | .list _ => true
  | _ => false
theorem kit_seq (K : PySem.W.Frag) (x : PyData) : PySem.W.kitAny K (.type (tyName x)) [.type "tuple", .type "list"] = some (isSeq x) := by
  refine kitAny_cons (kit_ty (kit_tuple x)) (fun h1 => kitAny_cons (kit_ty (kit_list x)) (fun h2 => ?_) (fun h2 => ?_)) (fun h1 => ?_)
  · cases x <;> first | rfl | exact Bool.noConfusion h1 | exact Bool.noConfusion h2
  · cases x <;> first | rfl | exact Bool.noConfusion h1 | exact Bool.noConfusion h2
  · cases x <;> first | rfl | exact Bool.noConfusion h1
theorem R.kitSeq {K : PySem.W.Frag} {H : Hp} {v : V} {x : PyData} (r : R K H v x) : ∃ t, TyY K H v t ∧ PySem.W.kitAny K t [.type "tuple", .type "list"] = some (isSeq x) := by
  rcases r.ty with h | ⟨C, h, hc, hd0⟩ | ⟨C, y, h, hc, rfl⟩
  · exact ⟨_, .inl h, kit_seq K x⟩
  · have e : isSeq x = false := by
      cases x <;> first | rfl | (simp [tyName] at hd0)
    rw [e]
    exact ⟨_, .inl h, kitAny_cons hc.kt (fun _ => kitAny_cons hc.kl (fun _ => rfl) (fun z => Bool.noConfusion z)) (fun z => Bool.noConfusion z)⟩
  · exact ⟨_, h, kitAny_cons hc.kt (fun _ => kitAny_cons hc.kl (fun _ => rfl) (fun z => Bool.noConfusion z)) (fun z => Bool.noConfusion z)⟩
section
variable {X : Cx} {E : List Sl} {a : Expr} {x : PyData}
theorem de_isSeq {pos nm pt p1 p2 : Pos} {kk : Nat} (ha : DE X E a x) (hg : Gl X "isinstance") (hm : X.mg "isinstance" = none) (hg1 : Gl X "tuple") (hm1 : X.mg "tuple" = none) (hg2 : Gl X "list") (hm2 : X.mg "list" = none)
    (hs1 : starEach [a, .Tuple [.Name "tuple" p1, .Name "list" p2] kk pt] X.env = (false, eval a X.env) :: starEach [.Tuple [.Name "tuple" p1, .Name "list" p2] kk pt] X.env := by rfl) (hs2 : starEach [.Tuple [.Name "tuple" p1, .Name "list" p2] kk pt] X.env = (false, eval (.Tuple [.Name "tuple" p1, .Name "list" p2] kk pt) X.env) :: starEach [] X.env := by rfl)
    (hpl : (backTo pos (starEach [.Tuple [.Name "tuple" p1, .Name "list" p2] kk pt] X.env)).any (·.1) = false := by rfl) : DE X E (.Call (.Name "isinstance" nm) [a, .Tuple [.Name "tuple" p1, .Name "list" p2] kk pt] [] pos) (.bool (isSeq x)) := by
  obtain ⟨ta, a1, a2⟩ := ha
  have c1 : PE X (.Name "tuple" p1) (tC (.ty "tuple")) := pe_bltn hg1 hm1 (by decide +kernel) rfl (by decide) (by decide)
  have c2 : PE X (.Name "list" p2) (tC (.ty "list")) := pe_bltn hg2 hm2 (by decide +kernel) rfl (by decide) (by decide)
  refine ⟨_, pe_callB call_isTY hg hm (by decide +kernel) (pa_cons a1 (pa_cons (pe_tup (pa_cons c1 (pa_cons c2 pa_nil rfl) rfl)) pa_nil hs2) hs1) (he := hs1) (hpl := hpl), fun M L H σ Q I k' => a2 M L H σ _ I fun v H1 s1 r1 => ?_⟩
  refine ⟨by show 2 ≤ sizeLine; rw [sizeLine_eq]; decide, fun q hq => ?_⟩
  have sq : Same H1 (upd H1 q (.tup [.ty "tuple", .ty "list"])) := same_new hq
  obtain ⟨t, k1, k2⟩ := (R.same (fz_sub.trans sq) _ _ r1).kitSeq
  exact ⟨v, q, [.ty "tuple", .ty "list"], t, [.type "tuple", .type "list"], isSeq x, rfl, upd_same, .cons (.ty "tuple") (.cons (.ty "list") .nil), k1, k2, k' _ _ (s1.trans sq) (.bl _)⟩
end
end D

end

section
set_option Elab.async false
set_option linter.all false
set_option autoImplicit false
set_option maxRecDepth 100000
set_option maxHeartbeats 2000000
namespace D
open PySem L2 PySem.Spec PyProof.Rows
/-! ### for x in xs: x[1].append(e), where xs are the frame's own pairs -/
section
variable {X : Cx} {W : WX} {E E' : List Sl} {e obj : Expr} {pos : Pos} {t u : OT} {ts : List OT} {i : Nat} {p : List Nat} {P : Out → Prop}
end
section
variable {α β : Type} {f : α → PyData} {g : β → PyData}
end
end D

end

section
set_option Elab.async false
set_option linter.all false
set_option autoImplicit false
set_option maxRecDepth 100000
set_option maxHeartbeats 2000000
namespace D
open PySem L2 PySem.Spec PyProof.Rows
theorem ble_self : ∀ n : Nat, Nat.ble n n = true
  | 0 => rfl
  | n + 1 => ble_self n
theorem rng_mem {lo : Int} {n : Nat} {a : Int} (h : a ∈ rng lo n) : lo ≤ a ∧ a < lo + n := by
  obtain ⟨i, hi⟩ := List.getElem?_of_mem h
  have := rng_get hi
  omega
theorem seq_or {x : PyData} (h : isSeq x = true) : isTuple x = true ∨ isList x = true := by
  cases x <;> first | exact .inl rfl | exact .inr rfl | exact Bool.noConfusion h
section
variable {K : PySem.W.Frag} {M L : List Addr} {H H' : Hp} {σ : L2.St} {E : List Sl}
end
section
variable {X : Cx} {W : WX} {E E' : List Sl} {e a b : Expr} {pos : Pos} {t u : OT} {x : PyData} {P : Out → Prop} {rest : List Stmt}
end
section
variable {X : Cx} {W : WX} {E E' : List Sl} {e : Expr} {pos : Pos} {α β : Type} {f : α → PyData} {g : β → PyData} {v : List (α × List β)} {y : α × List β} {P : Out → Prop}
end
end D

end

section
set_option Elab.async false
set_option linter.all false
set_option autoImplicit false
set_option maxRecDepth 100000
set_option maxHeartbeats 2000000
namespace D
open PySem L2 PySem.Spec PyProof.Rows
/-- a class told by a number; its instances as data -/
abbrev eI (A : Nat → Addr) (c : Nat) : PyData := .dict [(.int (A c : Int), .none)]
section
variable {X : Cx} {E : List Sl} {A : Nat → Addr} {c d : Nat} {a o e : Expr} {es : List Expr} {xs : List PyData} {y : PyData} {p : Bool}
/-- what a method promises, known by its place -/
structure FnM (X : Cx) (g : Addr) (n : Nat) (Rf : List PyData → Res → Prop) : Prop where
  ex : ∃ (fd : FuncData) (ps : List Str) (k : Nat), FnOk X.prog X.w X.K X.mg X.base (L2.CX X.prog X.w) k g fd ps (spD X.K n Rf) ∧ Room k X.A ∧ Binds X.K fd ps []
end
section
variable (P : Program) (w : World) (K : PySem.W.Frag) (mg : Str → Option Value) (base : Heap)
structure MCal (g : Addr) (n : Nat) (Rf : List PyData → Res → Prop) (k : Nat) : Prop where
  ex : ∃ (fd : FuncData) (ps : List Str), FnOk P w K mg base (L2.CX P w) k g fd ps (spD K n Rf) ∧ Binds K fd ps []
end
theorem MCal.at {X : Cx} {g : Addr} {n k j : Nat} {Rf : List PyData → Res → Prop} (c : MCal X.prog X.w X.K X.mg X.base g n Rf k) (hr : Room j X.A) (h : Nat.ble k j = true := by rfl) : FnM X g n Rf := by
  obtain ⟨fd, ps, h1, h2⟩ := c.ex
  exact ⟨fd, ps, k, h1, hr.mono (Nat.le_of_ble_eq_true h), h2⟩
/-! ### what may be None -/
section
variable {X : Cx} {E : List Sl} {a : Expr} {α : Type} [Inhabited α] {f : α → PyData} {o : Option α}
theorem de_unO (h : DE X E a (eO f o)) (hn : o.isNone = false) : DE X E a (f (o.getD default)) := by
  cases o with
  | none => exact Bool.noConfusion hn
  | some x => exact h
end
theorem eqE_OI : EqE 0 (eO PyData.int) := ⟨fun a => by cases a <;> rfl, fun a => by cases a <;> rfl, fun a => by cases a <;> exact Nat.le_refl 0, fun a b => by
  cases a <;> cases b
  · rfl
  · rfl
  · rfl
  · rename_i x y
    show (x == y) = decide (some x = some y)
    by_cases h : x = y
    · subst h; simp
    · rw [decide_eq_false (fun z => h (Option.some.inj z))]
      simpa using h⟩
theorem kit_tyF {K : PySem.W.Frag} {C : Addr} {T : String} (h1 : PySem.W.kitMeta T = true) (h3 : PySem.W.subIn K (.ref C) (.type T) = some false) : PySem.W.kitOne K (.ref C) (.type T) = some false := by
  show (if (Value.ref C == Value.type T) = true then some true else if PySem.W.kitMeta T = true then PySem.W.subIn K (.ref C) (.type T) else none) = some false
  rw [show (Value.ref C == Value.type T) = false from rfl, if_pos h1, h3]
  rfl
def Mood (c : Nat) : Prop := c = 20 ∨ c = 21 ∨ c = 22
theorem cut_from {α : Type} (xs : List α) {q : Int} (h0 : 0 ≤ q) (h : q ≤ xs.length) : cutG xs (some q) none = xs.drop q.toNat := by
  obtain ⟨n, rfl⟩ : ∃ n : Nat, q = (n : Int) := ⟨q.toNat, by omega⟩
  unfold cutG
  have e1 : HT.sIx xs.length 0 (some (n : Int)) = n := (HT.sIx_nat xs.length 0 n).trans (by omega)
  have e2 : HT.sIx xs.length xs.length none = xs.length := rfl
  rw [e1, e2]
  exact List.take_of_length_le (by rw [List.length_drop]; exact Nat.le_refl _)
theorem gx_natI {α : Type} [Inhabited α] (xs : List α) {q : Int} (h0 : 0 ≤ q) (h : q < xs.length) : xs[q.toNat]? = some (gx xs q) := by
  have h1 := at_gx (xs := xs) (i := q) ⟨by omega, h⟩
  obtain ⟨n, rfl⟩ : ∃ n : Nat, q = (n : Int) := ⟨q.toNat, by omega⟩
  rw [atI_nat (v := xs[n]'(by omega)) (by simp)] at h1
  rw [← h1]
  simp
theorem Mood.all {P : Nat → Prop} (h0 : P 20) (h1 : P 21) (h2 : P 22) : ∀ c, Mood c → P c := fun c hc => by
  rcases hc with rfl | rfl | rfl
  · exact h0
  · exact h1
  · exact h2
end D

end

section
set_option Elab.async false
set_option linter.all false
set_option autoImplicit false
set_option maxRecDepth 100000
set_option maxHeartbeats 2000000
namespace D
open PySem L2 PySem.Spec PyProof.Rows
section
variable {X : Cx} {W : WX} {E E' : List Sl} {a b c e : Expr} {pos : Pos} {α β : Type} {f : α → PyData} {g : β → PyData} {xs : List α} {ys : List β} {v : List α × List β} {y : β} {n : Int} {P : Out → Prop} {o : Option α}
end
theorem eqE_OP {α β : Type} [DecidableEq α] [DecidableEq β] {m n : Nat} {f : α → PyData} {g : β → PyData} (hf : EqE m f) (hg : EqE n g) : EqE (max m n + 1) (eO (eP f g)) := by
  have h := eqE_P hf hg
  refine ⟨fun a => ?_, fun a => ?_, fun a => ?_, fun a b => ?_⟩
  · cases a with
    | none => rfl
    | some x => exact h.nd x
  · cases a with
    | none => rfl
    | some x => exact h.lay x
  · cases a with
    | none => exact Nat.zero_le _
    | some x => exact h.dep x
  · cases a with
    | none => cases b <;> rfl
    | some x =>
      cases b with
      | none => rfl
      | some y =>
        show PyData.eqv (eP f g x) (eP f g y) = _
        rw [h.eq x y]
        by_cases q : x = y
        · subst q; simp
        · rw [decide_eq_false q, decide_eq_false (fun z => q (Option.some.inj z))]
theorem eqE_H {α β : Type} [DecidableEq α] [DecidableEq β] {m n : Nat} {f : α → PyData} {g : β → PyData} (hf : EqE m f) (hg : EqE n g) : EqE (max m n + 1) (eH f g) := by
  refine ⟨fun p => ?_, fun p => ?_, fun p => ?_, fun p q => ?_⟩
  · show (noDict (f p.1) && (noDict (g p.2) && true)) = true
    rw [hf.nd, hg.nd]; rfl
  · show ((f p.1).canLay0 && ((g p.2).canLay0 && true)) = true
    rw [hf.lay, hg.lay]; rfl
  · have h1 := hf.dep p.1
    have h2 := hg.dep p.2
    show max (f p.1).depth (max (g p.2).depth 0) + 1 ≤ _
    omega
  · show (PyData.eqv (f p.1) (f q.1) && (PyData.eqv (g p.2) (g q.2) && true)) = decide (p = q)
    rw [hf.eq, hg.eq, Bool.and_true]
    obtain ⟨a, b⟩ := p
    obtain ⟨c, d⟩ := q
    rw [← Bool.decide_and, decide_eq_decide]
    simp
theorem enumL_len {α : Type} (xs : List α) : (enumL xs).length = xs.length := by
  unfold enumL
  rw [List.length_zip, rng_len, Nat.min_self]
theorem enumL_mem {α : Type} {xs : List α} {p : Int × α} (h : p ∈ enumL xs) : 0 ≤ p.1 ∧ p.1 < xs.length := by
  unfold enumL at h
  have h1 := (List.of_mem_zip (show (p.1, p.2) ∈ (rng 0 xs.length).zip xs from h)).1
  have := rng_mem h1
  omega
theorem nodup_len : ∀ (n : Nat) (l : List Int), l.Nodup → (∀ x ∈ l, 0 ≤ x ∧ x < (n : Int)) → l.length ≤ n
  | 0, l, _, h => by
    cases l with
    | nil => exact Nat.zero_le _
    | cons x l => have := h x List.mem_cons_self; omega
  | n + 1, l, hn, h => by
    by_cases q : (n : Int) ∈ l
    · have h1 := nodup_len n (l.erase (n : Int)) (hn.erase _) (fun x hx => by
        have h2 := h x (List.mem_of_mem_erase hx)
        have h3 : x ≠ (n : Int) := fun z => by
          subst z
          exact (List.Nodup.not_mem_erase hn) hx
        omega)
      have h2 := List.length_erase_of_mem q
      have h3 : 0 < l.length := List.length_pos_of_mem q
      omega
    · have h1 := nodup_len n l hn (fun x hx => by
        have h2 := h x hx
        have h3 : x ≠ (n : Int) := fun z => by subst z; exact q hx
        omega)
      omega
end D

end

section
set_option Elab.async false
set_option linter.all false
set_option autoImplicit false
set_option maxRecDepth 100000
set_option maxHeartbeats 2000000
namespace D
/-! ### least sums by rounds -/
structure Ed where
  u : Int
  v : Int
  w : Int
abbrev Ht := Int → Option Int
def updH (H : Ht) (v : Int) (x : Int) : Ht := fun z => if z = v then some x else H z
def relax (H : Ht) (e : Ed) : Ht := match H e.u with
  | none => H
  | some x => match H e.v with
    | none => updH H e.v (x + e.w)
    | some y => if x + e.w < y then updH H e.v (x + e.w) else H
def round (E : List Ed) (H : Ht) : Ht := E.foldl relax H
def rounds (E : List Ed) : Nat → Ht → Ht
  | 0, H => H
  | n + 1, H => round E (rounds E n H)
def H0 (s : Int) : Ht := fun z => if z = s then some 0 else none
/-- at most x at v -/
def Le1 (H : Ht) (v x : Int) : Prop := ∃ y, H v = some y ∧ y ≤ x
theorem Le1.mono {H : Ht} {v x y : Int} (h : Le1 H v x) (k : x ≤ y) : Le1 H v y := by
  obtain ⟨z, h1, h2⟩ := h
  exact ⟨z, h1, by omega⟩
/-- ways from s, the places latest first -/
inductive SW (E : List Ed) (s : Int) : List Int → Int → Prop
  | nil : SW E s [s] 0
  | cons {e : Ed} {p : List Int} {x : Int} : e ∈ E → SW E s (e.u :: p) x → SW E s (e.v :: e.u :: p) (x + e.w)
theorem SW.nn {E : List Ed} {s : Int} (hw : ∀ e ∈ E, 0 ≤ e.w) {l : List Int} {x : Int} (h : SW E s l x) : 0 ≤ x := by
  induction h with
  | nil => exact Int.le_refl _
  | cons he _ ih => have := hw _ he; omega
theorem SW.rg {E : List Ed} {s m : Int} (hs : 0 ≤ s ∧ s < m) (hE : ∀ e ∈ E, 0 ≤ e.v ∧ e.v < m) {l : List Int} {x : Int} (h : SW E s l x) : ∀ v ∈ l, 0 ≤ v ∧ v < m := by
  induction h with
  | nil => intro v hv; rw [List.mem_singleton.mp hv]; exact hs
  | cons he _ ih =>
    intro v hv
    rcases List.mem_cons.mp hv with z | z
    · rw [z]; exact hE _ he
    · exact ih v z
section
variable {E : List Ed} {s : Int} {m : Nat}
def last (E : List Ed) (s : Int) (m : Nat) : Ht := rounds E (m - 1) (H0 s)
end
end D

end

section
set_option Elab.async false
set_option linter.all false
set_option autoImplicit false
set_option maxRecDepth 100000
set_option maxHeartbeats 2000000
namespace D
open PySem L2 PySem.Spec PyProof.Rows
/-! ### sorted -/
/-- sorted(xs), what the items stand for told beside -/
def rSortG {δ : Type} (K : PySem.W.Frag) (enc : δ → PyData) (rel : Hp → V → δ → Prop) : List V → Hp → VK → Prop := fun vs H Q => ∃ (a : Addr) (ps : List (V × δ)), vs = [V.ref a] ∧ SqL K H a (ps.map (·.1)) ∧ (∀ p ∈ ps, rel H p.1 p.2) ∧
  ∀ q, H q = none → Q (.ref q) (upd H q (.lst ((ps.mergeSort (fun p q => PySem.W.dataLe false enc p.2 q.2)).map (·.1))))
theorem paired_each {δ : Type} : ∀ {ps : List (V × δ)} {its : List Value}, Vals (ps.map (·.1)) its → PySem.W.EachIs (fun v (p : V × δ) => RelV p.1 v) its ps
  | [], _, h => by cases h; exact .nil
  | p :: ps, _, h => by
    cases h with
    | cons h1 h2 => exact .cons h1 (paired_each h2)
theorem each_paired {δ : Type} : ∀ {ps : List (V × δ)} {its : List Value}, PySem.W.EachIs (fun v (p : V × δ) => RelV p.1 v) its ps → Vals (ps.map (·.1)) its
  | [], _, h => by cases h; exact .nil
  | p :: ps, _, h => by
    cases h with
    | cons h1 h2 => exact .cons h1 (each_paired h2)
theorem each_imp {α β : Type} {R S : α → β → Prop} : ∀ {as : List α} {bs : List β}, PySem.W.EachIs R as bs → (∀ a b, b ∈ bs → R a b → S a b) → PySem.W.EachIs S as bs
  | _, _, .nil, _ => .nil
  | _, _, .cons h t, k => .cons (k _ _ List.mem_cons_self h) (each_imp t fun a b hb => k a b (List.mem_cons_of_mem _ hb))
theorem cr_sortG {X : Cx} {δ : Type} {enc : δ → PyData} {rel : Hp → V → δ → Prop} (hu : X.A.units + 64 < cLine) (hd : ∀ d, (enc d).depth ≤ 60) (hal : ∀ b b', PySem.W.alike (enc b) (enc b') = true) (ho : ∀ b, enc b ≠ .none ∧ ∀ xs, enc b ≠ .tuple xs)
    (hrd : ∀ pins s σ H v d u, Inv X pins σ H s → rel H v d → RelV v u → ∃ as, Reads s.heap u (enc d) as) : CallR X (.builtin "sorted") (rSortG X.K enc rel) := by
  intro pins s σ H vs us Q I r h
  obtain ⟨a, ps, rfl, hs, hp, q⟩ := h
  obtain ⟨its, rv, hl, hz⟩ := I.list hs
  rw [Vals.ref1 r]
  have e := paired_each rv
  have hlen : ps.length ≤ sizeLine := by rw [List.length_map] at hz; exact hz
  refine PySem.W.sorted_data (enc := fun p : V × δ => enc p.2) hl.isList e (each_imp e fun v p hm hr => hrd pins s σ H p.1 p.2 v I (hp p hm) hr) (PySem.W.AllAlike.of fun b b' => hal _ _) (PySem.W.Sortable.others fun b => ho _) hlen (fun b _ => by have := hd b.2; omega) fun out ho eo => ?_
  obtain ⟨ep, he'⟩ := PyProof.Rows.sortedAll_at s.heap its out.toArray
  have ev : PySem.W.dataLe false (fun p : V × δ => enc p.2) = (fun p q => PySem.W.dataLe false enc p.2 q.2) := rfl
  rw [ev] at eo
  exact ⟨.ref _, upd H (s.heap.objs.size + 1) (.lst _), I.laid (t' := s.toks) (fun _ _ => PyProof.Rows.sortedAll_old) (Nat.le_succ _) ⟨by rw [List.length_map, List.length_mergeSort]; exact hlen, out, ep, each_paired eo, he'⟩, rfl, q _ (I.hok.fresh (Nat.le_succ _))⟩
def sortI (ns : List Int) : List Int := ns.mergeSort (fun a b => decide (a ≤ b))
def sortL (xss : List (List Int)) : List (List Int) := xss.mergeSort (fun a b => decide (a ≤ b))
theorem le_ints : PySem.W.dataLe false (fun n : Int => PyData.int n) = fun a b => decide (a ≤ b) := PySem.W.dataLe_int (fun n : Int => n)
theorem le_rows : PySem.W.dataLe false (fun x : List Int => PyData.list (x.map .int)) = fun a b => decide (a ≤ b) := PySem.W.dataLe_rows (fun x : List Int => x)
theorem cr_sortI {X : Cx} (hu : X.A.units + 64 < cLine) : CallR X (.builtin "sorted") (rSortG X.K (fun n : Int => PyData.int n) (fun _ v n => v = V.int n)) :=
  cr_sortG hu (fun _ => Nat.zero_le _) (fun _ _ => rfl) (fun b => ⟨fun h => PyData.noConfusion h, fun xs h => PyData.noConfusion h⟩) fun pins s σ H v d u I hr hv => by
    subst hr
    obtain ⟨t, rfl⟩ := hv
    exact ⟨[], .int d t⟩
theorem reads_ints {h : Heap} : ∀ {ns : List Int} {us : List Value}, Vals (ns.map V.int) us → ReadsAll h us (ns.map PyData.int) []
  | [], _, r => by cases r; exact .nil
  | n :: ns, _, r => by
    cases r with
    | cons h1 h2 =>
      obtain ⟨t, rfl⟩ := h1
      exact .cons (as := []) (bs := []) (.int n t) (reads_ints h2)
theorem cr_sortL {X : Cx} (hu : X.A.units + 64 < cLine) : CallR X (.builtin "sorted") (rSortG X.K (fun x : List Int => PyData.list (x.map .int)) (fun H v x => ∃ t, v = V.ref t ∧ SqL X.K H t (x.map V.int))) :=
  cr_sortG hu (fun d => by simp only [PyData.depth, PySem.W.depth_ints]; decide) (fun b b' => by simp only [PySem.W.alike]; exact PySem.W.alike_ints b b') (fun b => ⟨fun h => PyData.noConfusion h, fun xs h => PyData.noConfusion h⟩) fun pins s σ H v d u I hr hv => by
    obtain ⟨t, rfl, hs⟩ := hr
    obtain ⟨its, rv, ⟨o, n, ho, hc, hd, hdat⟩, hz⟩ := I.list hs
    have e : u = Value.ref t := hv
    subst e
    exact ⟨[t], .list ho hc hdat (reads_ints rv)⟩
section
variable {X : Cx} {W : WX} {E E' : List Sl} {e a b : Expr} {pos : Pos} {t u : OT} {x : PyData} {P : Out → Prop} {rest : List Stmt}
theorem sort_fst {α δ : Type} (f : α → V × δ) (le : α → α → Bool) (le' : V × δ → V × δ → Bool) (h : ∀ a b, le a b = le' (f a) (f b)) (xs : List α) : ((xs.map f).mergeSort le').map (·.1) = (xs.mergeSort le).map (fun a => (f a).1) := by
  rw [← List.map_mergeSort (r := le) (s := le') (f := f) fun a _ b _ => h a b, List.map_map]
  rfl
/-- sorted(ints) -/
theorem dn_sortI {ns : List Int} {nm : Pos} (hu : X.A.units + 64 < cLine) (ha : DE X E a (eL PyData.int ns)) (hg : Gl X "sorted") (hm : X.mg "sorted" = none) (hs : starEach [a] X.env = (false, eval a X.env) :: starEach [] X.env := by rfl) : DN X E (.Call (.Name "sorted" nm) [a] [] pos) (oL PyData.int (sortI ns)) := by
  obtain ⟨ta, a1, a2⟩ := ha
  refine ⟨_, pe_callB (cr_sortI hu) hg hm (by decide +kernel) (pa_cons a1 pa_nil hs) (he := hs), fun M L H σ Q I k => a2 M L H σ _ I fun v H1 s1 r1 => ?_⟩
  cases r1 with
  | lst h1 h2 =>
    have ev := RA.ofInts h2
    subst ev
    refine ⟨_, ns.map (fun n => (V.int n, n)), rfl, ?_, fun p hp => ?_, fun q hq => ?_⟩
    · rw [List.map_map]; exact fz_sub.seq h1
    · obtain ⟨n, _, rfl⟩ := List.mem_map.mp hp; rfl
    · rw [sort_fst (fun n => (V.int n, n)) (fun a b => decide (a ≤ b)) _ (fun a b => by rw [le_ints])]
      exact own_new I s1 (RA.ints (ns := sortI ns)) hq k
/-! an own list of own lists, one by one -/
theorem own_ints {K : PySem.W.Frag} {Wn : List Addr} {H : Hp} : ∀ {ns : List Int} {vs : List V} {F : List Addr}, Owns K Wn H vs (ns.map (fun n => OT.d (.int n))) F → vs = ns.map V.int ∧ F = []
  | [], _, _, h => by cases h; exact ⟨rfl, rfl⟩
  | n :: ns, _, _, h => by
    cases h with
    | cons h1 h2 =>
      obtain ⟨rfl, rfl⟩ := own_ints h2
      cases h1 with
      | d r => cases r; exact ⟨rfl, rfl⟩
abbrev QL := V × List Int × List Addr
theorem owns_qs {K : PySem.W.Frag} {Wn : List Addr} {H : Hp} : ∀ {xss : List (List Int)} {vs : List V} {F : List Addr}, Owns K Wn H vs (xss.map (oL PyData.int)) F → ∃ qs : List QL, vs = qs.map (·.1) ∧ xss = qs.map (·.2.1) ∧ F = qs.flatMap (·.2.2) ∧ ∀ q ∈ qs, Own K Wn H q.1 (oL PyData.int q.2.1) q.2.2
  | [], _, _, h => by cases h; exact ⟨[], rfl, rfl, rfl, fun q hq => absurd hq List.not_mem_nil⟩
  | x :: xss, _, _, h => by
    cases h with
    | @cons v _ F1 vs _ G h1 h2 =>
      obtain ⟨qs, rfl, rfl, rfl, k⟩ := owns_qs h2
      exact ⟨(v, x, F1) :: qs, rfl, rfl, rfl, fun q hq => by
        rcases List.mem_cons.mp hq with z | z
        · rw [z]; exact h1
        · exact k q z⟩
theorem qs_owns {K : PySem.W.Frag} {Wn : List Addr} {H : Hp} : ∀ {qs : List QL}, (∀ q ∈ qs, Own K Wn H q.1 (oL PyData.int q.2.1) q.2.2) → Owns K Wn H (qs.map (·.1)) ((qs.map (·.2.1)).map (oL PyData.int)) (qs.flatMap (·.2.2))
  | [], _ => .nil
  | q :: qs, h => .cons (h q List.mem_cons_self) (qs_owns fun r hr => h r (List.mem_cons_of_mem _ hr))
theorem own_sql {K : PySem.W.Frag} {Wn : List Addr} {H : Hp} {v : V} {x : List Int} {F : List Addr} (h : Own K Wn H v (oL PyData.int x) F) : ∃ t, v = V.ref t ∧ SqL K H t (x.map V.int) := by
  unfold oL at h
  cases h with
  | @l p vs _ G hp hl ho =>
    rw [List.map_map] at ho
    obtain ⟨rfl, _⟩ := own_ints ho
    exact ⟨p, rfl, .of hl⟩
/-- return sorted(name), the name's own list of own lists -/
theorem ds_retSortL {k : Nat} {xss : List (List Int)} {nm cp : Pos} (hu : X.A.units + 64 < cLine) (ha : PE X a (tVar k)) (g : E[k]? = some (.o (oS (oL PyData.int) xss))) (hg : Gl X "sorted") (hm : X.mg "sorted" = none) (h : P (.rt (oS (oL PyData.int) (sortL xss)))) (hs : starEach [a] X.env = (false, eval a X.env) :: starEach [] X.env := by rfl) :
    DSs X W (.Return (some (.Call (.Name "sorted" nm) [a] [] cp)) pos :: rest) E P := by
  refine ⟨fun M L H σ D I k' => ⟨_, pss_cons (ps_ret (pe_callB (cr_sortL hu) hg hm (by decide +kernel) (pa_cons ha pa_nil hs) (he := hs))) pss_all, ?_⟩⟩
  obtain ⟨v, G, g1, g2, g3, g4⟩ := I.get g
  unfold oS at g2
  cases g2 with
  | @l p0 vs _ F hp0 hl ho =>
    obtain ⟨qs, rfl, rfl, rfl, hq⟩ := owns_qs ho
    refine ⟨_, g1, p0, qs.map (fun q => (q.1, q.2.1)), rfl, ?_, fun p hp => ?_, fun p hp => ?_⟩
    · rw [List.map_map]; exact .of hl
    · obtain ⟨q, hqm, rfl⟩ := List.mem_map.mp hp; exact own_sql (hq q hqm)
    · rw [sort_fst (fun q : QL => (q.1, q.2.1)) (fun a b => decide (a.2.1 ≤ b.2.1)) _ (fun a b => by rw [le_rows])]
      have es : sortL (qs.map (·.2.1)) = (qs.mergeSort (fun a b => decide (a.2.1 ≤ b.2.1))).map (·.2.1) := (List.map_mergeSort (r := fun a b : QL => decide (a.2.1 ≤ b.2.1)) (s := fun a b => decide (a ≤ b)) (f := fun q : QL => q.2.1) fun a _ b _ => rfl).symm
      rw [es] at h
      have hpm := List.mergeSort_perm qs (fun a b => decide (a.2.1 ≤ b.2.1))
      generalize qs.mergeSort (fun a b => decide (a.2.1 ≤ b.2.1)) = rs at *
      have hF := hpm.flatMap_right (fun q : QL => q.2.2)
      have sp : Same H (upd H p (.lst (rs.map (·.1)))) := same_new hp
      have sz : Same (fz (L ++ M) H) (fz ((p :: L) ++ M) (upd H p (.lst (rs.map (·.1))))) := fz_mono fun a o n q => ⟨fun z => by
        rcases List.mem_cons.mp z with z | z
        · rw [z, hp] at q; cases q
        · exact n z, sp a o q⟩
      have o1 : Owns X.K ((p :: L) ++ M) (upd H p (.lst (rs.map (·.1)))) (rs.map (·.1)) ((rs.map (·.2.1)).map (oL PyData.int)) (rs.flatMap (·.2.2)) := qs_owns fun q hqr => Own.mono sz _ _ _ (fun a ha => by
        obtain ⟨h1, ws, h2, _⟩ := Own.sub _ _ _ (hq q (hpm.mem_iff.mp hqr)) a ha
        exact ⟨List.mem_cons_of_mem _ h1, eq_same sp h2⟩) (hq q (hpm.mem_iff.mp hqr))
      have nG := (List.nodup_cons.mp g4).2
      have inL : ∀ a ∈ rs.flatMap (·.2.2), a ∈ L := fun a ha => g3 a (List.mem_cons_of_mem _ (hF.mem_iff.mp ha))
      refine k'.rt _ (.ref p) (p :: L) _ (p :: rs.flatMap (·.2.2)) h ⟨fun a o n q => sp a o q, fun a ha => ?_, fun a z => not_none_same sp z⟩ (fun a ha => ?_) (fun a ha => ?_) (List.nodup_cons.mpr ⟨fun z => I.dom p (List.mem_append_left _ (inL p z)) hp, hF.nodup_iff.mpr nG⟩) (.l List.mem_cons_self upd_same o1)
      · rcases List.mem_cons.mp ha with z | z
        · exact .inr (z ▸ hp)
        · exact .inl z
      · rcases List.mem_cons.mp ha with z | z
        · rw [z, upd_same]; exact fun z => by cases z
        · exact not_none_same sp (I.dom a z)
      · rcases List.mem_cons.mp ha with z | z
        · rw [z]; exact List.mem_cons_self
        · exact List.mem_cons_of_mem _ (inL a z)
/-- xs.append(a new thing), xs of the frame's own things -/
theorem ds_appendS {α : Type} {g : α → OT} {v : List α} {y : α} {nx : Str} {np ap cp : Pos} (i : Nat) (hv : ∀ p, PE X (.Name nx p) (tVar i)) (he : DN X E e (g y)) (hg : E[i]? = some (.o (oS g v))) (hl : v.length < sizeLine) (hE : E.set i (.o (oS g (v ++ [y]))) = E' := by rfl)
    (hbase : attributeBase (.Name nx np) "append" X.env (eval (.Name nx np) X.env) = eval (.Name nx np) X.env := by rfl)
    (hfew : ((backTo cp (starEach [e] X.env)).all (fun x => !x.1) && (backToKw cp (keywordEach [] X.env)).all (fun x => x.1.isSome) && decide ([e].length + ([] : List Keyword).length + (if ([] : List Keyword).isEmpty then 0 else 1) < 30)) = true := by rfl)
    (hline : (ap.endLine == cp.line) = true := by rfl) (hst : starEach [e] X.env = (false, eval e X.env) :: starEach [] X.env := by rfl) (hplain : (backTo cp (starEach [] X.env)).any (·.1) = false := by rfl)
    (hsw : swapsWith (.Call (.Attribute (.Name nx np) "append" ap) [e] [] cp) none pos.line X.env = pure false := by rfl) :
    DS X W (.Expr (.Call (.Attribute (.Name nx np) "append" ap) [e] [] cp) pos) E (th (· = E') P) :=
  ds_appendP (p := []) (dp_v i (hv _) hg) he hg rfl (by simpa using hl) (by
    rw [← hE]
    show E.set i (.o (.l (v.map g ++ [g y]))) = E.set i (.o (.l ((v ++ [y]).map g)))
    rw [List.map_append]
    rfl) hbase hfew hline hst hplain hsw
end
end D

end

section
set_option Elab.async false
set_option linter.all false
set_option autoImplicit false
set_option maxRecDepth 100000
set_option maxHeartbeats 2000000
namespace D
open PySem L2 PySem.Spec PyProof.Rows
/-! ### own things lent to a statement that does not change them -/
end D

end

section
set_option Elab.async false
set_option linter.all false
set_option autoImplicit false
set_option maxRecDepth 100000
set_option maxHeartbeats 2000000
namespace D
open PySem L2 PySem.Spec PyProof.Rows
/-! ### all ways from a place to another one, by a pile of begun ways -/
abbrev Itm := Int × Int × Int
abbrev Pth := List Int × List Int
abbrev DSt := List (List Int) × List Pth
def stp (e : Int) (p : Pth) (s : DSt) (q : Itm) : DSt :=
  if q.2.1 = gx p.2 (-1) then (if q.2.2 = e then (s.1 ++ [p.1 ++ [q.1]], s.2) else if q.2.2 ∈ p.2 then s else (s.1, s.2 ++ [(p.1 ++ [q.1], p.2 ++ [q.2.2])])) else s
/-- a way that has come to no place twice -/
structure PP (p : Pth) : Prop where
  nd : p.2.Nodup
  rg : ∀ x ∈ p.2, 0 ≤ x ∧ x < 6
  ln : p.1.length + 1 = p.2.length
theorem PP.le {p : Pth} (h : PP p) : p.2.length ≤ 6 := nodup_len 6 p.2 h.nd h.rg
theorem PP.pos {p : Pth} (h : PP p) : 1 ≤ p.2.length := by have := h.ln; omega
def pw (p : Pth) : Nat := 14 ^ (6 - p.2.length)
def bw (ps : List Pth) : Nat := (ps.map pw).sum
def tw (s : DSt) : Nat := s.1.length + 14 * bw s.2
theorem pw_pos (p : Pth) : 1 ≤ pw p := Nat.pos_of_ne_zero (by unfold pw; exact Nat.ne_of_gt (Nat.pow_pos (by decide)))
theorem bw_app (ps qs : List Pth) : bw (ps ++ qs) = bw ps + bw qs := by unfold bw; rw [List.map_append, List.sum_append]
theorem bw_one (p : Pth) : bw [p] = pw p := by unfold bw; simp
theorem bw_len (ps : List Pth) : ps.length ≤ bw ps := by
  induction ps with
  | nil => exact Nat.zero_le _
  | cons p ps ih =>
    have h := bw_app [p] ps
    rw [bw_one] at h
    have h2 := pw_pos p
    show ps.length + 1 ≤ bw ([p] ++ ps)
    omega
/-- what a turn begins with -/
structure BgI (s : DSt) : Prop where
  each : ∀ p ∈ s.2, PP p
  w : tw s ≤ 7529536
theorem bgI_0 {s : Int} (h : 0 ≤ s ∧ s < 6) : BgI ([], [([], [s])]) := ⟨fun p hp => by rw [List.mem_singleton.mp hp]; exact ⟨by simp, fun x hx => by rw [List.mem_singleton.mp hx]; exact h, rfl⟩, by unfold tw; rw [bw_one]; show 0 + 14 * 14 ^ (6 - 1) ≤ 7529536; decide⟩
/-- within the roads of one way: s0 was before -/
structure BiI (s0 : DSt) (p : Pth) (i : Nat) (s : DSt) : Prop where
  each : ∀ q ∈ s.2, PP q
  pp : PP p
  tot : tw s0 + 14 * pw p ≤ 7529536
  w : tw s ≤ tw s0 + i * pw p
theorem BiI.lt {s0 s : DSt} {p : Pth} {i : Nat} (h : BiI s0 p i s) (hi : i ≤ 13) : tw s < tw s0 + 14 * pw p := by
  have h1 := h.w
  have h2 := pw_pos p
  have h3 := Nat.mul_le_mul_right (pw p) hi
  omega
theorem BiI.l1 {s0 s : DSt} {p : Pth} {i : Nat} (h : BiI s0 p i s) (hi : i ≤ 13) : s.1.length ≤ 7529536 ∧ s.2.length ≤ 7529536 := by
  have h1 := h.lt hi
  have h2 := h.tot
  have h3 := bw_len s.2
  have h4 : s.1.length + 14 * bw s.2 = tw s := rfl
  omega
theorem biI_0 {s : DSt} {p : Pth} (h : BgI (s.1, s.2 ++ [p])) : BiI s p 0 s := by
  have h1 := h.w
  refine ⟨fun q hq => h.each q (List.mem_append_left _ hq), h.each p (List.mem_append_right _ (List.mem_singleton.mpr rfl)), ?_, by omega⟩
  unfold tw at *
  rw [show ((s.1, s.2 ++ [p]) : DSt).2 = s.2 ++ [p] from rfl, bw_app, bw_one] at h1
  have : ((s.1, s.2 ++ [p]) : DSt).1 = s.1 := rfl
  rw [this] at h1
  omega
theorem pp_step {p : Pth} {k b : Int} (h : PP p) (hb : 0 ≤ b ∧ b < 6) (hn : b ∉ p.2) : PP (p.1 ++ [k], p.2 ++ [b]) := by
  refine ⟨List.nodup_append.mpr ⟨h.nd, by simp, fun x hx y hy z => ?_⟩, fun x hx => ?_, by have := h.ln; simp [this]⟩
  · rw [List.mem_singleton.mp hy] at z; rw [z] at hx; exact hn hx
  · rcases List.mem_append.mp hx with z | z
    · exact h.rg x z
    · rw [List.mem_singleton.mp z]; exact hb
theorem pw_step {p : Pth} {k b : Int} (h : PP (p.1 ++ [k], p.2 ++ [b])) : 14 * pw (p.1 ++ [k], p.2 ++ [b]) = pw p := by
  have hl := h.le
  rw [show ((p.1 ++ [k], p.2 ++ [b]) : Pth).2 = p.2 ++ [b] from rfl, List.length_append] at hl
  have hl' : p.2.length + 1 ≤ 6 := hl
  unfold pw
  rw [show ((p.1 ++ [k], p.2 ++ [b]) : Pth).2.length = p.2.length + 1 from by simp, show 6 - p.2.length = (6 - (p.2.length + 1)) + 1 from by omega, Nat.pow_succ, Nat.mul_comm]
theorem BiI.step {s0 s : DSt} {p : Pth} {i : Nat} {e : Int} {q : Itm} (hq : 0 ≤ q.2.2 ∧ q.2.2 < 6) (h : BiI s0 p i s) : BiI s0 p (i + 1) (stp e p s q) := by
  have h2 := pw_pos p
  have hw := h.w
  have e1 : (i + 1) * pw p = i * pw p + pw p := by rw [Nat.add_mul, Nat.one_mul]
  unfold stp
  by_cases c1 : q.2.1 = gx p.2 (-1)
  · rw [if_pos c1]
    by_cases c2 : q.2.2 = e
    · rw [if_pos c2]
      refine ⟨h.each, h.pp, h.tot, ?_⟩
      rw [e1]
      unfold tw at *
      show (s.1 ++ [p.1 ++ [q.1]]).length + 14 * bw s.2 ≤ _
      rw [List.length_append]
      show s.1.length + 1 + _ ≤ _
      omega
    · rw [if_neg c2]
      by_cases c3 : q.2.2 ∈ p.2
      · rw [if_pos c3]
        exact ⟨h.each, h.pp, h.tot, by rw [e1]; omega⟩
      · rw [if_neg c3]
        have hp := pp_step (k := q.1) h.pp hq c3
        refine ⟨fun r hr => ?_, h.pp, h.tot, ?_⟩
        · rcases List.mem_append.mp hr with z | z
          · exact h.each r z
          · rw [List.mem_singleton.mp z]; exact hp
        · rw [e1]
          have h3 := pw_step hp
          unfold tw at *
          show s.1.length + 14 * bw (s.2 ++ [_]) ≤ _
          rw [bw_app, bw_one]
          omega
  · rw [if_neg c1]
    exact ⟨h.each, h.pp, h.tot, by rw [e1]; omega⟩
theorem fold_bi {s0 : DSt} {p : Pth} {e : Int} : ∀ (us : List Itm) (i : Nat) (s : DSt), (∀ q ∈ us, 0 ≤ q.2.2 ∧ q.2.2 < 6) → BiI s0 p i s → BiI s0 p (i + us.length) (us.foldl (stp e p) s)
  | [], _, _, _, h => h
  | q :: us, i, s, hq, h => by
    have := fold_bi (e := e) us (i + 1) _ (fun r hr => hq r (List.mem_cons_of_mem _ hr)) (h.step (e := e) (hq q List.mem_cons_self))
    rw [show i + (q :: us).length = i + 1 + us.length by simp; omega]
    exact this
/-! ### the whole -/
def dfsC (s : DSt) : Bool := !decide (s.2 = [])
def dfsT (e : Int) (us : List Itm) (s : DSt) : Go DSt Empty := .nx (us.foldl (stp e (s.2.getLastD default)) (s.1, s.2.dropLast))
structure Us (us : List Itm) : Prop where
  len : us.length ≤ 13
  rg : ∀ q ∈ us, 0 ≤ q.2.2 ∧ q.2.2 < 6
theorem snoc_parts {α : Type} [Inhabited α] {l : List α} (h : l ≠ []) : l = l.dropLast ++ [l.getLastD default] := by
  rw [List.getLastD_eq_getLast?, List.getLast?_eq_some_getLast h]
  exact (List.dropLast_concat_getLast h).symm
theorem dfs_turn {e : Int} {us : List Itm} {s : DSt} (hu : Us us) (h : BgI s) (hc : ¬ s.2 = []) : ∃ s', dfsT e us s = .nx s' ∧ BgI s' ∧ tw s' < tw s := by
  have hs := snoc_parts hc
  refine ⟨_, rfl, ?_⟩
  generalize s.2.getLastD default = p at *
  generalize s.2.dropLast = front at *
  obtain ⟨f, b⟩ := s
  simp only at hs
  subst hs
  have h1 := fold_bi (e := e) us 0 (f, front) hu.rg (biI_0 (s := (f, front)) h)
  rw [Nat.zero_add] at h1
  have h2 := h1.lt hu.len
  have h3 := h1.tot
  have h4 : tw (f, front ++ [p]) = tw (f, front) + 14 * pw p := by
    unfold tw
    show f.length + 14 * bw (front ++ [p]) = f.length + 14 * bw front + 14 * pw p
    rw [bw_app, bw_one]; omega
  show BgI (us.foldl (stp e p) (f, front)) ∧ tw (us.foldl (stp e p) (f, front)) < tw (f, front ++ [p])
  exact ⟨⟨h1.each, by omega⟩, by omega⟩
theorem whileG_inv {σ : Type} {c : σ → Bool} {f : σ → Go σ Empty} (I : σ → Prop) (μ : σ → Nat) (step : ∀ s, I s → c s = true → ∃ s', f s = .nx s' ∧ I s' ∧ μ s' < μ s) : ∀ (n : Nat) (s : σ), I s → μ s < n → ∃ s', whileG c f n s = .nx s' ∧ I s' ∧ c s' = false
  | 0, s, _, h => absurd h (Nat.not_lt_zero _)
  | n + 1, s, hi, h => by
    cases q : c s with
    | false => exact ⟨s, by rw [whileG, q], hi, q⟩
    | true =>
      obtain ⟨s1, h1, h2, h3⟩ := step s hi q
      obtain ⟨s2, k1, k2, k3⟩ := whileG_inv I μ step n s1 h2 (by omega)
      exact ⟨s2, by rw [whileG, q, h1]; exact k1, k2, k3⟩
def dfs (us : List Itm) (s e : Int) : List (List Int) := goN (whileG dfsC (dfsT e us) (tw ([], [([], [s])]) + 1) ([], [([], [s])])) (fun s => sortL s.1)
/-! ### there is a way -/
inductive Cn (us : List Itm) (e : Int) : List Int → Prop
  | here {seen : List Int} {q : Itm} : q ∈ us → q.2.1 = gx seen (-1) → q.2.2 = e → Cn us e seen
  | step {seen : List Int} {q : Itm} : q ∈ us → q.2.1 = gx seen (-1) → q.2.2 ∉ seen → Cn us e (seen ++ [q.2.2]) → Cn us e seen
theorem Cn.mono {us vs : List Itm} {e : Int} {l : List Int} (h : Cn us e l) (hs : ∀ q ∈ us, ∃ r ∈ vs, r.2 = q.2) : Cn vs e l := by
  induction h with
  | here hq h1 h2 => obtain ⟨r, hr, er⟩ := hs _ hq; exact .here hr (by rw [er]; exact h1) (by rw [er]; exact h2)
  | step hq h1 h2 _ ih => obtain ⟨r, hr, er⟩ := hs _ hq; exact .step hr (by rw [er]; exact h1) (by rw [er]; exact h2) (by rw [er]; exact ih)
structure FoldI (us xs : List Itm) (e : Int) (p : Pth) (s s' : DSt) : Prop where
  keep1 : s.1 ≠ [] → s'.1 ≠ []
  keep2 : ∀ r ∈ s.2, r ∈ s'.2
  snd1 : s'.1 ≠ [] → s.1 ≠ [] ∨ Cn us e p.2
  snd2 : ∀ r ∈ s'.2, r ∈ s.2 ∨ (Cn us e r.2 → Cn us e p.2)
  cpl1 : ∀ q ∈ xs, q.2.1 = gx p.2 (-1) → q.2.2 = e → s'.1 ≠ []
  cpl2 : ∀ q ∈ xs, q.2.1 = gx p.2 (-1) → q.2.2 ≠ e → q.2.2 ∉ p.2 → ∃ r ∈ s'.2, r.2 = p.2 ++ [q.2.2]
theorem fold_i {us : List Itm} {e : Int} {p : Pth} : ∀ (xs : List Itm) (s : DSt), (∀ q ∈ xs, q ∈ us) → FoldI us xs e p s (xs.foldl (stp e p) s)
  | [], s, _ => ⟨id, fun _ h => h, .inl, fun _ h => .inl h, fun q hq => absurd hq List.not_mem_nil, fun q hq => absurd hq List.not_mem_nil⟩
  | q :: xs, s, hu => by
    have hq := hu q List.mem_cons_self
    have ih := fold_i (e := e) (p := p) xs (stp e p s q) (fun r hr => hu r (List.mem_cons_of_mem _ hr))
    show FoldI us (q :: xs) e p s (xs.foldl (stp e p) (stp e p s q))
    generalize xs.foldl (stp e p) (stp e p s q) = s' at *
    unfold stp at ih
    by_cases c1 : q.2.1 = gx p.2 (-1)
    · rw [if_pos c1] at ih
      by_cases c2 : q.2.2 = e
      · rw [if_pos c2] at ih
        have hne : s'.1 ≠ [] := ih.keep1 (by simp)
        refine ⟨fun _ => hne, ih.keep2, fun _ => .inr (.here hq c1 c2), ih.snd2, fun _ _ _ _ => hne, fun r hr h1 h2 h3 => ?_⟩
        rcases List.mem_cons.mp hr with z | z
        · rw [z] at h2; exact absurd c2 h2
        · exact ih.cpl2 r z h1 h2 h3
      · rw [if_neg c2] at ih
        by_cases c3 : q.2.2 ∈ p.2
        · rw [if_pos c3] at ih
          refine ⟨ih.keep1, ih.keep2, ih.snd1, ih.snd2, fun r hr h1 h2 => ?_, fun r hr h1 h2 h3 => ?_⟩
          · rcases List.mem_cons.mp hr with z | z
            · rw [z] at h2; exact absurd h2 c2
            · exact ih.cpl1 r z h1 h2
          · rcases List.mem_cons.mp hr with z | z
            · rw [z] at h3; exact absurd c3 h3
            · exact ih.cpl2 r z h1 h2 h3
        · rw [if_neg c3] at ih
          refine ⟨ih.keep1, fun r hr => ih.keep2 r (List.mem_append_left _ hr), ih.snd1, fun r hr => ?_, fun r hr h1 h2 => ?_, fun r hr h1 h2 h3 => ?_⟩
          · rcases ih.snd2 r hr with z | z
            · rcases List.mem_append.mp z with y | y
              · exact .inl y
              · rw [List.mem_singleton.mp y]
                exact .inr fun k => .step hq c1 c3 k
            · exact .inr z
          · rcases List.mem_cons.mp hr with z | z
            · rw [z] at h2; exact absurd h2 c2
            · exact ih.cpl1 r z h1 h2
          · rcases List.mem_cons.mp hr with z | z
            · rw [z]
              exact ⟨(p.1 ++ [q.1], p.2 ++ [q.2.2]), ih.keep2 _ (List.mem_append_right _ (List.mem_singleton.mpr rfl)), rfl⟩
            · exact ih.cpl2 r z h1 h2 h3
    · rw [if_neg c1] at ih
      refine ⟨ih.keep1, ih.keep2, ih.snd1, ih.snd2, fun r hr h1 h2 => ?_, fun r hr h1 h2 h3 => ?_⟩
      · rcases List.mem_cons.mp hr with z | z
        · rw [z] at h1; exact absurd h1 c1
        · exact ih.cpl1 r z h1 h2
      · rcases List.mem_cons.mp hr with z | z
        · rw [z] at h1; exact absurd h1 c1
        · exact ih.cpl2 r z h1 h2 h3
structure SemI (us : List Itm) (s0 e : Int) (s : DSt) : Prop where
  snd1 : s.1 ≠ [] → Cn us e [s0]
  snd2 : ∀ p ∈ s.2, Cn us e p.2 → Cn us e [s0]
  cpl : Cn us e [s0] → s.1 ≠ [] ∨ ∃ p ∈ s.2, Cn us e p.2
theorem sem_turn {us : List Itm} {s0 e : Int} {s : DSt} (h : SemI us s0 e s) (hc : ¬ s.2 = []) : SemI us s0 e (us.foldl (stp e (s.2.getLastD default)) (s.1, s.2.dropLast)) := by
  have hs := snoc_parts hc
  generalize s.2.getLastD default = p at *
  generalize s.2.dropLast = front at *
  obtain ⟨f, b⟩ := s
  simp only at hs
  subst hs
  have hf := fold_i (e := e) (p := p) us (f, front) (fun _ h => h)
  show SemI us s0 e (us.foldl (stp e p) (f, front))
  generalize us.foldl (stp e p) (f, front) = s' at *
  have hp : Cn us e p.2 → Cn us e [s0] := h.snd2 p (List.mem_append_right _ (List.mem_singleton.mpr rfl))
  refine ⟨fun k => ?_, fun r hr k => ?_, fun k => ?_⟩
  · rcases hf.snd1 k with z | z
    · exact h.snd1 z
    · exact hp z
  · rcases hf.snd2 r hr with z | z
    · exact h.snd2 r (List.mem_append_left _ z) k
    · exact hp (z k)
  · rcases h.cpl k with z | ⟨r, hr, z⟩
    · exact .inl (hf.keep1 z)
    · rcases List.mem_append.mp hr with y | y
      · exact .inr ⟨r, hf.keep2 r y, z⟩
      · rw [List.mem_singleton.mp y] at z
        cases z with
        | here hq h1 h2 => exact .inl (hf.cpl1 _ hq h1 h2)
        | @step _ q hq h1 h2 h3 =>
          by_cases c : q.2.2 = e
          · exact .inl (hf.cpl1 _ hq h1 c)
          · obtain ⟨r, hr, er⟩ := hf.cpl2 _ hq h1 c h2
            exact .inr ⟨r, hr, by rw [er]; exact h3⟩
theorem dfs_run {us : List Itm} {s e : Int} (hu : Us us) (hs : 0 ≤ s ∧ s < 6) (J : DSt → Prop) (j0 : J ([], [([], [s])])) (jt : ∀ s, BgI s → J s → ¬ s.2 = [] → J (us.foldl (stp e (s.2.getLastD default)) (s.1, s.2.dropLast))) : ∃ f, J (f, []) ∧ f.length ≤ 7529536 ∧ dfs us s e = sortL f := by
  obtain ⟨s', h1, ⟨h2, h3⟩, h4⟩ := whileG_inv (c := dfsC) (f := dfsT e us) (fun s => BgI s ∧ J s) tw (fun s hi hc => by
    have hc' : ¬ s.2 = [] := by unfold dfsC at hc; simpa using hc
    obtain ⟨s', k1, k2, k3⟩ := dfs_turn (e := e) hu hi.1 hc'
    refine ⟨s', k1, ⟨k2, ?_⟩, k3⟩
    have : s' = us.foldl (stp e (s.2.getLastD default)) (s.1, s.2.dropLast) := by
      unfold dfsT at k1; cases k1; rfl
    rw [this]
    exact jt s hi.1 hi.2 hc') (tw ([], [([], [s])]) + 1) ([], [([], [s])]) ⟨bgI_0 hs, j0⟩ (Nat.lt_succ_self _)
  have h5 : s'.2 = [] := by unfold dfsC at h4; simpa using h4
  refine ⟨s'.1, ?_, ?_, ?_⟩
  · have : s' = (s'.1, []) := Prod.ext rfl h5
    rw [← this]; exact h3
  · have := h2.w
    unfold tw at this
    omega
  · unfold dfs
    rw [goN_nx h1]
theorem sortL_nil {f : List (List Int)} : sortL f ≠ [] ↔ f ≠ [] := by
  constructor
  · intro h k; subst k; exact h (List.mergeSort_nil)
  · intro h k
    have := List.length_mergeSort (le := fun a b : List Int => decide (a ≤ b)) f
    unfold sortL at k
    rw [k] at this
    exact h (List.length_eq_zero_iff.mp this.symm)
theorem sortL_len (f : List (List Int)) : (sortL f).length = f.length := List.length_mergeSort f
/-- ways are listed just where there is one -/
theorem dfs_some {us : List Itm} {s e : Int} (hu : Us us) (hs : 0 ≤ s ∧ s < 6) : dfs us s e ≠ [] ↔ Cn us e [s] := by
  obtain ⟨f, h1, _, h2⟩ := dfs_run (e := e) hu hs (SemI us s e) ⟨fun k => absurd rfl k, fun p hp k => by rw [List.mem_singleton.mp hp] at k; exact k, fun k => .inr ⟨_, List.mem_singleton.mpr rfl, k⟩⟩ (fun s _ h hc => sem_turn h hc)
  rw [h2, sortL_nil]
  refine ⟨h1.snd1, fun k => ?_⟩
  rcases h1.cpl k with z | ⟨_, z, _⟩
  · exact z
  · exact absurd z List.not_mem_nil
/-! ### few roads, few ways -/
def mq (us : List Itm) (l : List Int) : Nat := (us.filter fun q => !decide (q.2.1 ∈ l.dropLast)).length
def kq (us : List Itm) (v : Int) : Nat := (us.filter fun q => decide (q.2.1 = v)).length
def cw (us : List Itm) (s : DSt) : Nat := s.1.length + (s.2.map fun p => mq us p.2).sum
theorem kq_mq (us : List Itm) (l : List Int) (b v : Int) (hv : gx l (-1) = v) (hl : l = l.dropLast ++ [v]) (hn : l.Nodup) : mq us (l ++ [b]) + kq us v = mq us l := by
  have hvn : v ∉ l.dropLast := by
    rw [hl] at hn
    exact fun z => (List.nodup_append.mp hn).2.2 v z v (List.mem_singleton.mpr rfl) rfl
  unfold mq kq
  rw [List.dropLast_concat]
  induction us with
  | nil => rfl
  | cons q us ih =>
    by_cases c1 : q.2.1 = v
    · have a1 : q.2.1 ∈ l := by rw [c1, hl]; exact List.mem_append_right _ (List.mem_singleton.mpr rfl)
      have a2 : q.2.1 ∉ l.dropLast := by rw [c1]; exact hvn
      rw [List.filter_cons_of_neg (by simpa using a1), List.filter_cons_of_pos (by simpa using c1), List.filter_cons_of_pos (by simpa using a2)]
      simp only [List.length_cons]
      omega
    · rw [List.filter_cons_of_neg (p := fun q : Itm => decide (q.2.1 = v)) (by simpa using c1)]
      by_cases c2 : q.2.1 ∈ l.dropLast
      · have a1 : q.2.1 ∈ l := by rw [hl]; exact List.mem_append_left _ c2
        rw [List.filter_cons_of_neg (by simpa using a1), List.filter_cons_of_neg (by simpa using c2)]
        exact ih
      · have a1 : q.2.1 ∉ l := by
          rw [hl]; intro z
          rcases List.mem_append.mp z with y | y
          · exact c2 y
          · exact c1 (List.mem_singleton.mp y)
        rw [List.filter_cons_of_pos (by simpa using a1), List.filter_cons_of_pos (by simpa using c2)]
        simp only [List.length_cons]
        omega
theorem fold_cw {us : List Itm} {e : Int} {p : Pth} {g : Nat} (hg : 1 ≤ g) (hm : ∀ b, mq us (p.2 ++ [b]) ≤ g) : ∀ (xs : List Itm) (s : DSt), cw us (xs.foldl (stp e p) s) ≤ cw us s + kq xs (gx p.2 (-1)) * g
  | [], s => by show cw us s ≤ _; omega
  | q :: xs, s => by
    have ih := fold_cw (e := e) hg hm xs (stp e p s q)
    show cw us (xs.foldl (stp e p) (stp e p s q)) ≤ _
    generalize cw us (xs.foldl (stp e p) (stp e p s q)) = z at *
    unfold stp at ih
    unfold kq at *
    by_cases c1 : q.2.1 = gx p.2 (-1)
    · rw [List.filter_cons_of_pos (by simpa using c1), List.length_cons, Nat.add_mul, Nat.one_mul]
      rw [if_pos c1] at ih
      by_cases c2 : q.2.2 = e
      · rw [if_pos c2] at ih
        unfold cw at *
        simp only [List.length_append, List.length_cons, List.length_nil] at ih
        omega
      · rw [if_neg c2] at ih
        by_cases c3 : q.2.2 ∈ p.2
        · rw [if_pos c3] at ih; omega
        · rw [if_neg c3] at ih
          have := hm q.2.2
          unfold cw at *
          simp only [List.map_append, List.sum_append, List.map_cons, List.map_nil, List.sum_cons, List.sum_nil] at ih
          omega
    · rw [List.filter_cons_of_neg (by simpa using c1)]
      rw [if_neg c1] at ih
      exact ih
theorem few {m k : Nat} (h : m ≤ 3) (hk : k ≤ m) : k * max 1 (m - k) ≤ m := by
  rcases (show k = 0 ∨ k = 1 ∨ k = 2 ∨ k = 3 by omega) with rfl | rfl | rfl | rfl <;> omega
theorem gx_last {l : List Int} (h : l ≠ []) : l = l.dropLast ++ [gx l (-1)] := by
  have h1 := snoc_parts h
  have h2 : gx l (-1) = l.getLastD default := by
    have hl : 0 < l.length := List.length_pos_iff.mpr h
    unfold gx
    rw [List.getLastD_eq_getLast?, List.getLast?_eq_getElem?]
    unfold atI
    have e1 : ixN l.length (-1) = some (l.length - 1) := by
      unfold ixN
      rw [if_neg (by decide), if_pos (by omega)]
      exact congrArg some (by omega)
    rw [e1]
    rfl
  rw [h2]; exact h1
theorem cw_turn {us : List Itm} {e : Int} {s : DSt} (h3 : us.length ≤ 3) (hb : BgI s) (hc : ¬ s.2 = []) (h : cw us s ≤ us.length) : cw us (us.foldl (stp e (s.2.getLastD default)) (s.1, s.2.dropLast)) ≤ us.length := by
  have hs := snoc_parts hc
  generalize s.2.getLastD default = p at *
  generalize s.2.dropLast = front at *
  obtain ⟨f, b⟩ := s
  simp only at hs
  subst hs
  have hp := hb.each p (List.mem_append_right _ (List.mem_singleton.mpr rfl))
  have hne : p.2 ≠ [] := fun z => by have := hp.pos; rw [z] at this; exact absurd this (by decide)
  have hl := gx_last hne
  have hk : ∀ b, mq us (p.2 ++ [b]) + kq us (gx p.2 (-1)) = mq us p.2 := fun b => kq_mq us p.2 b _ rfl hl hp.nd
  have hm3 : mq us p.2 ≤ 3 := Nat.le_trans (List.length_filter_le ..) h3
  have h0 := hk 0
  have h1 := fold_cw (us := us) (e := e) (p := p) (g := max 1 (mq us p.2 - kq us (gx p.2 (-1)))) (by omega) (fun b => by have := hk b; omega) us (f, front)
  have h2 := few hm3 (show kq us (gx p.2 (-1)) ≤ mq us p.2 by omega)
  have e2 : cw us (f, front ++ [p]) = cw us (f, front) + mq us p.2 := by
    unfold cw
    simp only [List.map_append, List.sum_append, List.map_cons, List.map_nil, List.sum_cons, List.sum_nil]
    omega
  rw [e2] at h
  show cw us (us.foldl (stp e p) (f, front)) ≤ us.length
  omega
theorem dfs_few {us : List Itm} {s e : Int} (hu : Us us) (h3 : us.length ≤ 3) (hs : 0 ≤ s ∧ s < 6) : (dfs us s e).length ≤ us.length := by
  obtain ⟨f, h1, _, h2⟩ := dfs_run (e := e) hu hs (fun s => cw us s ≤ us.length) (by
    show 0 + (mq us [s] + 0) ≤ _
    have := List.length_filter_le (fun q : Itm => !decide (q.2.1 ∈ [s].dropLast)) us
    unfold mq; omega) (fun s hb h hc => cw_turn h3 hb hc h)
  rw [h2, sortL_len]
  unfold cw at h1
  exact Nat.le_trans (Nat.le_add_right _ _) h1
/-! ### the roads that may be taken -/
theorem forG_pure {σ α : Type} {f : σ → α → Go σ Empty} {g : σ → α → σ} : ∀ (xs : List α) (_ : ∀ a ∈ xs, ∀ s, f s a = .nx (g s a)) (s : σ), forG f xs s = .nx (xs.foldl g s)
  | [], _, s => rfl
  | x :: xs, h, s => by
    unfold forG
    rw [h x List.mem_cons_self s]
    exact forG_pure xs (fun a ha => h a (List.mem_cons_of_mem _ ha)) (g s x)
theorem enumL_gx {α : Type} [Inhabited α] {xs : List α} {p : Int × α} (h : p ∈ enumL xs) : gx xs p.1 = p.2 := by
  have hb := enumL_mem h
  obtain ⟨j, hj⟩ := List.getElem?_of_mem h
  unfold enumL at hj
  rw [List.getElem?_zip_eq_some] at hj
  have hr := rng_get hj.1
  have := gx_natI xs (q := p.1) hb.1 (by omega)
  rw [show p.1.toNat = j by omega, hj.2] at this
  exact (Option.some.inj this).symm
theorem enumL_of {α : Type} {xs : List α} {x : α} (h : x ∈ xs) : ∃ k : Int, (k, x) ∈ enumL xs := by
  obtain ⟨j, hj⟩ := List.getElem?_of_mem h
  have l1 := get_lt hj
  refine ⟨(j : Int), ?_⟩
  unfold enumL
  refine List.mem_of_getElem? (i := j) ?_
  rw [List.getElem?_zip_eq_some]
  refine ⟨?_, hj⟩
  unfold rng
  rw [List.getElem?_map, List.getElem?_range l1]
  show some ((0 : Int) + (j : Int)) = _
  rw [Int.zero_add]
theorem enumL_in {α : Type} {xs : List α} {p : Int × α} (h : p ∈ enumL xs) : p.2 ∈ xs := by
  obtain ⟨j, hj⟩ := List.getElem?_of_mem h
  unfold enumL at hj
  rw [List.getElem?_zip_eq_some] at hj
  exact List.mem_of_getElem? hj.2
section
variable {α β : Type} [Inhabited α] [Inhabited β]
def usb (rs : List (T5 Int Int α β Bool)) (lane : Bool) : List Itm := ((enumL rs).filter (fun a => lane || !a.2.e)).map (fun a => (a.1, a.2.a, a.2.b))
theorem usb_len (rs : List (T5 Int Int α β Bool)) (lane : Bool) : (usb rs lane).length ≤ rs.length := by
  unfold usb
  rw [List.length_map]
  exact Nat.le_trans (List.length_filter_le ..) (by rw [enumL_len]; exact Nat.le_refl _)
theorem usb_in {rs : List (T5 Int Int α β Bool)} {lane : Bool} {q : Itm} (h : q ∈ usb rs lane) : ∃ r ∈ rs, (lane || !r.e) = true ∧ q.2 = (r.a, r.b) := by
  obtain ⟨p, hp, rfl⟩ := List.mem_map.mp h
  obtain ⟨h1, h2⟩ := List.mem_filter.mp hp
  exact ⟨p.2, enumL_in h1, h2, rfl⟩
theorem usb_of {rs : List (T5 Int Int α β Bool)} {lane : Bool} {r : T5 Int Int α β Bool} (h : r ∈ rs) (hu : (lane || !r.e) = true) : ∃ q ∈ usb rs lane, q.2 = (r.a, r.b) := by
  obtain ⟨k, hk⟩ := enumL_of h
  exact ⟨(k, r.a, r.b), List.mem_map.mpr ⟨(k, r), List.mem_filter.mpr ⟨hk, hu⟩, rfl⟩, rfl⟩
theorem usb_mono {rs rs' : List (T5 Int Int α β Bool)} {lane : Bool} (h : ∀ r ∈ rs, r ∈ rs') : ∀ q ∈ usb rs lane, ∃ r ∈ usb rs' lane, r.2 = q.2 := fun q hq => by
  obtain ⟨r, h1, h2, h3⟩ := usb_in hq
  obtain ⟨p, k1, k2⟩ := usb_of (h r h1) h2
  exact ⟨p, k1, k2.trans h3.symm⟩
theorem usb_us {rs : List (T5 Int Int α β Bool)} {lane : Bool} (h : rs.length ≤ 13) (he : ∀ r ∈ rs, 0 ≤ r.b ∧ r.b < 6) : Us (usb rs lane) := ⟨Nat.le_trans (usb_len rs lane) h, fun q hq => by
  obtain ⟨r, h1, h2, h3⟩ := usb_in hq
  rw [h3]; exact he r h1⟩
theorem foldl_same {α σ : Type} {f g : σ → α → σ} : ∀ (xs : List α) (_ : ∀ a ∈ xs, ∀ s, f s a = g s a) (s : σ), xs.foldl f s = xs.foldl g s
  | [], _, _ => rfl
  | x :: xs, h, s => by
    show xs.foldl f (f s x) = xs.foldl g (g s x)
    rw [h x List.mem_cons_self s]
    exact foldl_same xs (fun a ha => h a (List.mem_cons_of_mem _ ha)) _
theorem usb_foldB {σ : Type} (g : σ → Itm → σ) (rs : List (T5 Int Int α β Bool)) (lane : Bool) (s : σ) : (((enumL rs).filter (fun a => lane || !a.2.e)).map (fun a => a.1)).foldl (fun s k => g s (k, (gx rs k).a, (gx rs k).b)) s = (usb rs lane).foldl g s := by
  unfold usb
  rw [List.foldl_map, List.foldl_map]
  refine foldl_same _ (fun a ha s => ?_) s
  rw [enumL_gx (List.mem_filter.mp ha).1]
end
theorem gx_snoc (l : List Int) (b : Int) : gx (l ++ [b]) (-1) = b := by
  have h := gx_last (l := l ++ [b]) (by simp)
  rw [List.dropLast_concat] at h
  have := List.append_cancel_left h
  exact ((List.cons.inj this).1).symm
/-- what is shut under the roads holds all that there is a way to -/
theorem Cn.shut {us : List Itm} {R : List Int} {e : Int} (hR : ∀ q ∈ us, q.2.1 ∈ R → q.2.2 ∈ R) {l : List Int} (h : Cn us e l) : gx l (-1) ∈ R → e ∈ R := by
  induction h with
  | here hq h1 h2 => intro k; rw [← h1] at k; rw [← h2]; exact hR _ hq k
  | step hq h1 h2 _ ih => intro k; rw [← h1] at k; exact ih (by rw [gx_snoc]; exact hR _ hq k)
theorem cn_one {us : List Itm} {e s : Int} {q : Itm} (hq : q ∈ us) (h : q.2 = (s, e)) : Cn us e [s] := .here hq (by rw [h]; rfl) (by rw [h])
theorem cn_two {us : List Itm} {e s o : Int} {q r : Itm} (hq : q ∈ us) (h : q.2 = (s, o)) (hr : r ∈ us) (h' : r.2 = (o, e)) (hn : o ≠ s) : Cn us e [s] :=
  .step hq (by rw [h]; rfl) (by rw [h]; simpa using hn) (by rw [h]; exact .here hr (by rw [h']; rfl) (by rw [h']))
theorem cut_split {α : Type} (xs : List α) (a : Int) : cutG xs none (some a) ++ cutG xs (some a) none = xs := by
  unfold cutG
  have e1 : HT.sIx xs.length 0 none = 0 := rfl
  have e2 : HT.sIx xs.length xs.length none = xs.length := rfl
  have e3 : HT.sIx xs.length xs.length (some a) = HT.sIx xs.length 0 (some a) := rfl
  rw [e1, e2, e3, List.drop_zero, Nat.sub_zero]
  have e4 : (xs.drop (HT.sIx xs.length 0 (some a))).take (xs.length - HT.sIx xs.length 0 (some a)) = xs.drop (HT.sIx xs.length 0 (some a)) := List.take_of_length_le (by rw [List.length_drop]; exact Nat.le_refl _)
  rw [e4]
  exact List.take_append_drop _ _
theorem eqE_T4 {α β γ δ : Type} [DecidableEq α] [DecidableEq β] [DecidableEq γ] [DecidableEq δ] {m n o p : Nat} {f : α → PyData} {g : β → PyData} {h : γ → PyData} {k : δ → PyData} (hf : EqE m f) (hg : EqE n g) (hh : EqE o h) (hk : EqE p k) : EqE (m + n + o + p + 1) (eT4 f g h k) := by
  refine ⟨fun p => ?_, fun p => ?_, fun p => ?_, fun x y => ?_⟩
  · show (noDict (f p.a) && (noDict (g p.b) && (noDict (h p.c) && (noDict (k p.d) && true)))) = true
    rw [hf.nd, hg.nd, hh.nd, hk.nd]; rfl
  · show ((f p.a).canLay0 && ((g p.b).canLay0 && ((h p.c).canLay0 && ((k p.d).canLay0 && true)))) = true
    rw [hf.lay, hg.lay, hh.lay, hk.lay]; rfl
  · have h1 := hf.dep p.a
    have h2 := hg.dep p.b
    have h3 := hh.dep p.c
    have h4 := hk.dep p.d
    show max (f p.a).depth (max (g p.b).depth (max (h p.c).depth (max (k p.d).depth 0))) + 1 ≤ _
    omega
  · show (PyData.eqv (f x.a) (f y.a) && (PyData.eqv (g x.b) (g y.b) && (PyData.eqv (h x.c) (h y.c) && (PyData.eqv (k x.d) (k y.d) && true)))) = decide (x = y)
    rw [hf.eq, hg.eq, hh.eq, hk.eq, Bool.and_true]
    obtain ⟨a, b, c, d⟩ := x
    obtain ⟨a', b', c', d'⟩ := y
    rw [← Bool.decide_and, ← Bool.decide_and, ← Bool.decide_and, decide_eq_decide]
    simp
end D

end

section
set_option Elab.async false
set_option linter.all false
set_option autoImplicit false
set_option maxRecDepth 100000
set_option maxHeartbeats 2000000
namespace D
open PySem L2 PySem.Spec PyProof.Rows
/-! ### list comprehensions whose items are new own things -/
theorem Owns.snoc {K : PySem.W.Frag} {W : List Addr} {H : Hp} : ∀ {vs : List V} {ts : List OT} {F : List Addr} {v : V} {t : OT} {G : List Addr}, Owns K W H vs ts F → Own K W H v t G → Owns K W H (vs ++ [v]) (ts ++ [t]) (F ++ G)
  | _, _, _, v, t, G, .nil, h => by
    have := Owns.cons h (.nil (K := K) (W := W) (H := H))
    simpa using this
  | _, _, _, v, t, G, .cons (F := F1) (G := G1) a b, h => by
    have := Owns.cons a (Owns.snoc b h)
    rw [List.append_assoc]
    exact this
section
variable {X : Cx} {E E' : List Sl} {elt tg it : Expr} {ifs : List Expr} {scope : Scope} {own : List (Str × Nat)} {pos : Pos} {α β : Type} {ea : α → PyData} {items : List α} {f : PyData → List Sl → Option (List Sl)} {sl : List Nat} {W : WX} {P : Out → Prop}
end
section
variable {X : Cx} {W : WX} {E E' : List Sl} {e a b c obj : Expr} {x : PyData} {pos : Pos} {t : OT} {P : Out → Prop} {i : Nat} {p : List Nat} {n m : Int}
variable {α : Type} [Inhabited α] {f : α → PyData} {xss : List (List α)}
end
/-! ### slices with any step -/
section
variable {X : Cx} {E : List Sl} {a se : Expr} {pos : Pos} {xs : List PyData} {α : Type} {f : α → PyData}
end
/-! ### more on ways -/
section
variable {α β : Type} [Inhabited α] [Inhabited β]
end
end D

end

section
set_option Elab.async false
set_option linter.all false
set_option autoImplicit false
set_option maxRecDepth 100000
set_option maxHeartbeats 2000000
namespace D
open PySem L2 PySem.Spec PyProof.Rows
/-! ### own lists of own lists: items put, parts taken -/
/-- a name's slot is emptied; its own things' addresses stay the frame's -/
theorem Slots.drop {K : PySem.W.Frag} {W : List Addr} {H : Hp} {σ : L2.St} {E : List Sl} {F : List Addr} (h : Slots K W H σ E F) : F.Nodup → ∀ (i : Nat) (v : V) (t : OT) (G : List Addr), E[i]? = some (.o t) → σ[i]? = some (some v) → Own K W H v t G →
    ∃ F', Slots K W H σ (E.set i .no) F' ∧ F'.Nodup ∧ (∀ a ∈ F', a ∈ F) ∧ ∀ a ∈ G, a ∉ F' := by
  induction h with
  | nil => intro _ i v t G e; simp at e
  | no hs ih =>
    intro nF i v t G e s o
    cases i with
    | zero => simp at e
    | succ i =>
      obtain ⟨F', h1, h2, h3, h4⟩ := ih nF i v t G (by simpa using e) (by simpa using s) o
      exact ⟨F', .no h1, h2, h3, h4⟩
  | raw hs ih =>
    intro nF i v t G e s o
    cases i with
    | zero => simp at e
    | succ i =>
      obtain ⟨F', h1, h2, h3, h4⟩ := ih nF i v t G (by simpa using e) (by simpa using s) o
      exact ⟨F', .raw h1, h2, h3, h4⟩
  | fx r hs ih =>
    intro nF i v t G e s o
    cases i with
    | zero => simp at e
    | succ i =>
      obtain ⟨F', h1, h2, h3, h4⟩ := ih nF i v t G (by simpa using e) (by simpa using s) o
      exact ⟨F', .fx r h1, h2, h3, h4⟩
  | @o v1 t1 G1 σ1 E1 F1 ho1 hs ih =>
    intro nF i v t G e s o
    obtain ⟨n1, n2, n3⟩ := List.nodup_append.mp nF
    cases i with
    | zero =>
      have e1 : t1 = t := by simpa using e
      have e2 : v1 = v := by simpa using s
      subst e1 e2
      have eG := Own.fp (Same.refl H) _ _ _ _ ho1 o
      subst eG
      exact ⟨F1, .no hs, n2, fun a ha => List.mem_append_right _ ha, fun a ha z => n3 a ha a z rfl⟩
    | succ i =>
      obtain ⟨F', h1, h2, h3, h4⟩ := ih n2 i v t G (by simpa using e) (by simpa using s) o
      refine ⟨_, .o ho1 h1, List.nodup_append.mpr ⟨n1, h2, fun a ha b hb e => n3 a ha b (h3 b hb) e⟩, fun a ha => ?_, fun a ha z => ?_⟩
      · rcases List.mem_append.mp ha with q | q
        · exact List.mem_append_left _ q
        · exact List.mem_append_right _ (h3 a q)
      · rcases List.mem_append.mp z with q | q
        · have hg := (hs.get (i := i) (t := t) (by simpa using e))
          obtain ⟨v2, G2, g1, g2, g3, g4⟩ := hg
          have e2 : v2 = v := by
            have : σ1[i]? = some (some v) := by simpa using s
            rw [this] at g1; cases g1; rfl
          subst e2
          have eG := Own.fp (Same.refl H) _ _ _ _ g2 o
          subst eG
          exact n3 a q a (g3 a ha) rfl
        · exact h4 a ha q
theorem Owns.cut {K : PySem.W.Frag} {W : List Addr} {H : Hp} : ∀ {vs : List V} {ts : List OT} {F : List Addr} (n : Nat), Owns K W H vs ts F → F.Nodup → ∃ G, Owns K W H (vs.drop n) (ts.drop n) G ∧ G.Nodup ∧ ∀ a ∈ G, a ∈ F
  | _, _, _, 0, h, n => ⟨_, h, n, fun _ h => h⟩
  | _, _, _, k + 1, .nil, n => ⟨[], .nil, List.nodup_nil, fun _ h => h⟩
  | _, _, _, k + 1, .cons h1 h2, n => by
    obtain ⟨n1, n2, n3⟩ := List.nodup_append.mp n
    obtain ⟨G, g1, g2, g3⟩ := Owns.cut k h2 n2
    exact ⟨G, g1, g2, fun a ha => List.mem_append_right _ (g3 a ha)⟩
theorem Owns.tk {K : PySem.W.Frag} {W : List Addr} {H : Hp} : ∀ {vs : List V} {ts : List OT} {F : List Addr} (n : Nat), Owns K W H vs ts F → F.Nodup → ∃ G, Owns K W H (vs.take n) (ts.take n) G ∧ G.Nodup ∧ ∀ a ∈ G, a ∈ F
  | _, _, _, 0, _, _ => ⟨[], .nil, List.nodup_nil, fun a h => absurd h List.not_mem_nil⟩
  | _, _, _, k + 1, .nil, n => ⟨[], .nil, List.nodup_nil, fun a h => absurd h List.not_mem_nil⟩
  | _, _, _, k + 1, .cons (F := F1) h1 h2, n => by
    obtain ⟨n1, n2, n3⟩ := List.nodup_append.mp n
    obtain ⟨G, g1, g2, g3⟩ := Owns.tk k h2 n2
    refine ⟨F1 ++ G, .cons h1 g1, List.nodup_append.mpr ⟨n1, g2, fun a ha b hb e => n3 a ha b (g3 b hb) e⟩, fun a ha => ?_⟩
    rcases List.mem_append.mp ha with z | z
    · exact List.mem_append_left _ z
    · exact List.mem_append_right _ (g3 a z)
section
variable {X : Cx} {W : WX} {E E' : List Sl} {e a b c : Expr} {i : Nat} {ts : List OT} {pos : Pos} {P : Out → Prop}
variable {α : Type} [Inhabited α] {f : α → PyData} {xss : List (List α)} {n m : Int}
end
/-! ### lists of numbers as lists of numbers or None -/
section
variable {X : Cx} {W : WX} {E E' : List Sl} {e a b c : Expr} {i : Nat} {pos : Pos} {P : Out → Prop} {n m : Int}
end
/-! ### any(xs) of whole numbers -/
/-! ### what a way's roads add up to -/
section
variable {α β : Type} [Inhabited α] [Inhabited β]
end
end D

end

section
set_option Elab.async false
set_option linter.all false
set_option autoImplicit false
set_option maxRecDepth 100000
set_option maxHeartbeats 2000000
namespace D
open PySem L2 PySem.Spec PyProof.Rows
/-! ### a caught exception that is kept behind the suite -/
/-- the context behind the suite: the exception's object is known -/
abbrev kept (X : Cx) (pn : List (Addr × Obj)) : Cx := { X with pn := pn }
section
variable {X : Cx} {x n : Str} {c : Value} {i : Nat} {body suite rest : List Stmt} {b₀ : Stmt} {np pos pos' : Pos} {tb : WX → TS} {ts tr : Addr → Value → Option Addr → TS} {t0 : TS} {Wout : WX}
end
/-! ### isinstance of a kept exception -/
section
variable {X : Cx} {W : WX} {st : Stmt} {sts rest bod : List Stmt} {E E' : List Sl} {P P' : Out → Prop} {e a b c : Expr} {es : List Expr} {pos : Pos} {p : Bool} {n : Str}
end
end D
namespace D
open PySem L2 PySem.Spec PyProof.Rows
/-! ### the least of a list, a place in a list -/
section
variable {X : Cx} {E : List Sl} {a b : Expr} {pos nm : Pos} {ns : List Int} {y : Int}
end
end D

end

section
set_option Elab.async false
set_option linter.all false
set_option autoImplicit false
set_option maxRecDepth 100000
set_option maxHeartbeats 2000000
namespace D
open PySem L2 PySem.Spec PyProof.Rows
/-! ### a >= b of data that are alike -/
section
variable {X : Cx} {W : WX} {E E' : List Sl} {e a b : Expr} {pos : Pos} {x y : PyData} {P : Out → Prop} {rest : List Stmt}
/-! ### sorted() of tuples -/
theorem RA.pairs {δ : Type} {K : PySem.W.Frag} {H : Hp} {enc : δ → PyData} : ∀ {ds : List δ} {vs : List V}, RA K H vs (ds.map enc) → ∃ ps : List (V × δ), vs = ps.map (·.1) ∧ ds = ps.map (·.2) ∧ ∀ p ∈ ps, R K H p.1 (enc p.2)
  | [], _, h => by cases h; exact ⟨[], rfl, rfl, fun p hp => absurd hp List.not_mem_nil⟩
  | d :: ds, _, h => by
    cases h with
    | @cons v _ vs _ h1 h2 =>
      obtain ⟨ps, rfl, rfl, k⟩ := RA.pairs h2
      exact ⟨(v, d) :: ps, rfl, rfl, fun p hp => by
        rcases List.mem_cons.mp hp with z | z
        · rw [z]; exact h1
        · exact k p z⟩
/-! ### a new pair of own lists; an own list of fractions lent to what makes one -/
end
/-! ### != and not in, as truths -/
section
variable {X : Cx} {E : List Sl} {a b : Expr} {pos : Pos}
end
end D

end

section
set_option Elab.async false
set_option linter.all false
set_option autoImplicit false
set_option maxRecDepth 100000
set_option maxHeartbeats 2000000
namespace D
open PySem L2 PySem.Spec PyProof.Rows
/-! ### a caught exception becomes a value -/
section
variable {X : Cx} {pins : List (Addr × Obj)} {σ : L2.St} {H : Hp} {s : Shared}
theorem inv_track {a C : Addr} {oe : Obj} {d : Option Addr} (I : Inv X ((a, oe) :: pins) σ H s) (hz : Zc (.ref C) d oe) (hv : ∃ vs, oe.data = .fields vs) (n0 : X.s_0.heap.get? a = none) (np : ∀ p ∈ X.pn ++ pins, p.1 ≠ a) :
    Inv X pins σ (upd H a (ExZ C d a)) s := by
  obtain ⟨ha, hn, hL, hF, hc⟩ := I.pin (a, oe) (List.mem_append_right _ List.mem_cons_self)
  obtain ⟨vs, hd⟩ := hv
  have ne : ∀ {b o}, H b = some o → b ≠ a := fun {b o} e z => by rw [z, hn] at e; cases e
  have sub : ∀ p ∈ X.pn ++ pins, p ∈ X.pn ++ (a, oe) :: pins := fun p hp => by
    rcases List.mem_append.mp hp with z | z
    · exact List.mem_append_left _ z
    · exact List.mem_append_right _ (List.mem_cons_of_mem _ z)
  refine ⟨I.ok, I.os, I.bare, ⟨I.base.keep, I.base.slot, fun b o e n hq => ?_, I.base.there, fun b xs e => ?_, fun b o u e => ?_, fun b ps e => ?_⟩, I.loc, I.cell, ?_, fun x c e => ?_, fun p hp => ?_, fun b u e => ?_, I.len⟩
  · rw [upd_ne (fun z => by rw [z, n0] at e; cases e)]; exact I.base.free b o e n hq
  · have q := I.base.tups b xs e
    rw [upd_ne (ne q)]; exact q
  · have q := I.base.frzs b o u e
    rw [upd_ne (ne q)]; exact q
  · obtain ⟨m, q⟩ := I.base.tbls b ps e
    exact ⟨m, by rw [upd_ne (ne q)]; exact q⟩
  · rw [upd_ne (fun z => hL z.symm)]; exact I.free
  · obtain ⟨v, o, h1, h2⟩ := I.cell x c e
    rw [upd_ne (fun z => by rw [z] at h1; rw [ha] at h1; cases h1; exact hc _ h2)]
    exact I.freeC x c e
  · obtain ⟨h1, h2, h3⟩ := I.pin p (sub p hp)
    exact ⟨h1, by rw [upd_ne (np p hp)]; exact h2, h3⟩
  · by_cases hb : b = a
    · subst hb
      rw [upd_same] at e
      cases e
      exact ⟨⟨oe, vs, ha, hz, hd⟩, ⟨oe, ha⟩, fun _ _ ⟨o, v, q, r⟩ k => ⟨o, v, k o q, r⟩⟩
    · rw [upd_ne hb] at e
      exact (I.hok b u e).stay (fun _ _ _ q => q) (fun c q => by rw [upd_ne (ne q)]; exact q) fun c xs q => by rw [upd_ne (ne q)]; exact q
end
/-- what the clause wishes: the suite goes on alone; then the exception is a value of ours -/
def wVl (K : PySem.W.Frag) (c : Value) (i : Nat) (ts : Addr → Value → Option Addr → TS) (Wout : WX) (D : Ends) : WX := fun cls d σ H =>
  ∃ b, PySem.W.exmOne K cls c = some b ∧ (b = true → ∃ C, cls = .ref C ∧ ∀ a, H a = none → ts a cls d { nx := fun σ' H' => H' a = none → D.nx (σ'.set i none) (upd H' a (ExZ C d a)), rt := fun _ _ => False, bk := fun _ _ => False, ct := fun _ _ => False } (σ.set i (some (.ref a))) H) ∧
    (b = false → Wout cls d σ H)
section
variable {X : Cx} {x n : Str} {c : Value} {i : Nat} {body suite : List Stmt} {b₀ : Stmt} {np pos pos' : Pos} {tb : WX → TS} {ts : Addr → Value → Option Addr → TS} {Wout : WX}
theorem ps_try_val (hs : X.stack = X.env :: X.outer) (hf : X.env.frame = some X.env.locals) (hN : X.N.Nodup) (hi : X.N[i]? = some n) (hln : X.env.kindOf n = some .local) (hc : Names X x c) (tk : Takes X Wout) (hex : X.ex = [])
    (hb : ∀ (W : WX) (pn : List (Addr × Obj)) (xe : Value → Shared → Prop), Takes (X.tr pn xe) W → PassesOwn (model X.prog X.w) X.A X.env xe → PSs (X.tr pn xe) body (tb W))
    (hsu : ∀ (a : Addr) (oe : Obj) (cls : Value) (d : Option Addr) (pn : List (Addr × Obj)), Zc cls d oe → (∃ vs, oe.data = .fields vs) → PSs (X.suite a ((a, oe) :: pn)) (b₀ :: suite) (ts a cls d)) :
    PS X (.Try body [.ExceptHandler (some (.Name x np)) (some n) (b₀ :: suite) pos'] [] [] pos) (fun D σ H => tb (wVl X.K c i ts Wout D) D σ H) := by
  refine ⟨fun pins s σ H D I h => ?_⟩
  have ok := I.ok
  have hfr : X.A.frames = some (X.env :: X.outer) := by rw [ok.frames, hs]
  refine wpAny_Try_except ?_
  refine wpAny_mono ((hb (wVl X.K c i ts Wout D) (X.pn ++ pins) (fun e s₁ => wpAny (model X.prog X.w) X.A (noteFrame e X.env) (fun _ s₂ => wpAny (model X.prog X.w) X.A (setFlight e none) (fun _ s₃ =>
    wpAny (model X.prog X.w) X.A (handleBy e X.env [.ExceptHandler (some (.Name x np)) (some n) (b₀ :: suite) pos']) (SP X pins D) X.xe s₃) X.xe s₂) X.xe s₁) (fun u s' xx => ?_) PassesOwn.looking).run [] s σ H D (I.toTry _) h) (fun f s1 hsp => ?_) (fun e s1 he => he)
  · obtain ⟨a, B, sI, pins', σ', H', cls, d, rfl, J', nb, up, sky, na, os, ag, b, hb1, hyes, hno⟩ := xx
    have J : Inv X pins σ' H' sI := J'.ofTry ok
    have sky' : Sky B (X.env :: X.outer) a (Zc cls d) X.env.locals s'.heap := by rw [← hs]; exact sky
    show wpAny (model X.prog X.w) X.A (noteFrame (.ref a) X.env) _ _ _
    refine Sky.land Zc.steady hfr hf sky' fun h3 fl3 up3 => ?_
    have J3 : Inv X pins σ' H' { s' with heap := h3 } := J.landed nb fl3.1 (up.trans up3) os ag
    obtain ⟨oe3, vs3, he3, hz3, hd3⟩ := fl3.there
    have nfr : a ∉ frs (X.env :: X.outer) := fun hm => by
      obtain ⟨_, o', e', hnf⟩ := fl3.2.2.1.mem hm
      rw [he3] at e'; cases e'
      exact hnf _ hd3
    have nL : a ≠ X.env.locals := fun z => nfr (List.mem_filterMap.mpr ⟨X.env, List.mem_cons_self, by rw [hf, z]⟩)
    have frS : ∀ b, b ∈ frs X.stack → b = X.env.locals ∨ b ∈ X.fs := fun b hm => by
      rw [hs] at hm
      obtain ⟨e, he, q⟩ := List.mem_filterMap.mp hm
      rcases List.mem_cons.mp he with z | z
      · rw [z, hf] at q; exact .inl (Option.some.inj q).symm
      · exact .inr (List.mem_filterMap.mpr ⟨e, z, q⟩)
    have nF : a ∉ X.fs := fun hm => by
      obtain ⟨e, he, q⟩ := List.mem_filterMap.mp hm
      exact nfr (List.mem_filterMap.mpr ⟨e, List.mem_cons_of_mem _ he, q⟩)
    have Bn : B.get? a = none := fl3.2.1
    have n0 : X.s_0.heap.get? a = none := by
      cases e : X.s_0.heap.get? a with
      | none => rfl
      | some o =>
        obtain ⟨o', e'⟩ := J.base.there a o e (by rw [hex]; exact fun z => nomatch z)
        have z := nb a o' e' (fun hm => (frS a hm).elim nL nF)
        rw [Bn] at z; cases z
    have npp : ∀ p ∈ X.pn ++ pins, p.1 ≠ a := fun p hp z => by
      obtain ⟨h1, h2, h3, h4, h5⟩ := J.pin p hp
      have y := nb p.1 p.2 h1 (fun hm => (frS _ hm).elim h3 h4)
      rw [z, Bn] at y; cases y
    have S3 := J3.suite he3 hd3 na nL nF
    refine wpAny_handleBy_cons (codeAny_handlers_test ?_) (by intro q; cases q)
    have LT : PySem.W.Looks (model X.prog X.w) h3 (typeOf (.ref a)) cls := fun A Q E s k q => wpAny_typeOf_ref (k _ _ he3) (by rw [hz3.1]; exact q)
    have LM := PySem.W.exm_one (M := model X.prog X.w) (J3.kIn) LT hb1
    have test : ∀ {Q : Value → Shared → Prop} {E : Value → Shared → Prop}, Q c { s' with heap := h3 } → wpAny (model X.prog X.w) (X.A.mark (some (.ref a))) (eval (.Name x np) X.env) Q E { s' with heap := h3 } := fun {Q E} q => by
      obtain ⟨hg, hdbg, hm | ⟨hm, hv, hnn⟩⟩ := hc
      · exact ld_glob (X := X.suite a ((a, oe3) :: (X.pn ++ pins))) S3 hg hm q hdbg
      · exact ld_blt (X := X.suite a ((a, oe3) :: (X.pn ++ pins))) S3 hg hm hv q hnn hdbg
    refine test (LM.here ?_)
    cases b with
    | true =>
      refine codeAny_handlers_suite_as ?_
      refine HandSPX.lands_againZ fl3 fun h4 fl4 up4 => ?_
      have J4 : Inv X pins σ' H' { s' with heap := h4 } := J.landed nb fl4.1 ((up.trans up3).trans up4) os ag
      obtain ⟨oe4, vs4, he4, hz4, hd4⟩ := fl4.there
      obtain ⟨C, rfl, hy⟩ := hyes rfl
      have S4 := J4.suite he4 hd4 na nL nF
      refine store_ok (X := X.suite a ((a, oe4) :: (X.pn ++ pins))) (v := .ref a) S4 hN hi (.inl hln) rfl (fun s5 S5 => ?_) (.inr hln)
      refine wpAny_mono ((hsu a oe4 (.ref C) d (X.pn ++ pins) hz4 ⟨_, hd4⟩).run [] s5 _ H' _ S5 (hy a na)) (fun f s6 hsp => ?_) (fun _ _ z => False.elim z)
      cases f with
      | next =>
        obtain ⟨σ6, H6, S6, q6⟩ := hsp
        have P6 := S6.pin (a, oe4) (List.mem_append_left _ List.mem_cons_self)
        have K6 : Inv X ((a, oe4) :: pins) σ6 H6 s6 := ⟨ok, S6.os, S6.bare, S6.base, S6.loc, S6.cell, S6.free, S6.freeC, fun p hp => S6.pin p (List.mem_append_left _ (by
          rcases List.mem_append.mp hp with z | z
          · exact List.mem_cons_of_mem _ (List.mem_append_left _ z)
          · rcases List.mem_cons.mp z with y | y
            · rw [y]; exact List.mem_cons_self
            · exact List.mem_cons_of_mem _ (List.mem_append_right _ y))), S6.hok, S6.len⟩
        exact gone_ok K6 hN hi hln fun s7 J7 => ⟨_, _, inv_track J7 hz4 ⟨_, hd4⟩ n0 npp, q6 P6.2.1⟩
      | brk => obtain ⟨σ6, H6, S6, q6⟩ := hsp; exact q6.elim
      | cont => obtain ⟨σ6, H6, S6, q6⟩ := hsp; exact q6.elim
      | ret u => obtain ⟨v6, σ6, H6, S6, r6, q6⟩ := hsp; exact q6.elim
    | false =>
      show wpAny _ X.A (handleBy (.ref a) X.env []) _ _ _
      refine wpAny_handleBy_nil ?_
      obtain ⟨k1, k2, k3, oe, vs, T, oT, ts', he, hz, hd, h1, hr⟩ := id fl3
      unfold PySem.passOn
      refine wpAny_bind (wpAny_field he hd h1 ?_)
      rw [if_neg (show ¬ ((Value.ref T == Value.none) = true) from by simp)]
      have fin : wpAny (model X.prog X.w) X.A (setFlight (.ref a) X.env.frame) (fun _ s4 => wpAny (model X.prog X.w) X.A (throw (.ref a) : Sem Flow) (SP X pins D) X.xe s4) X.xe { s' with heap := h3 } := by
        rw [hf]
        refine HandSPX.setFlight_upZ fl3 fun h4 hh4 up4 => wpAny_throw (tk _ _ ?_)
        exact ⟨a, B, sI, pins, σ', H', cls, d, rfl, J, nb, (up.trans up3).trans up4, .inr (.inr (by rw [hs]; exact hh4)), na, os, ag, hno rfl⟩
      first
        | exact wpAny_bind (wpAny_pure (wpAny_bind fin))
        | exact wpAny_bind fin
  · cases f with
    | next => obtain ⟨σ', H', J', q⟩ := hsp; exact wpAny_execs_nil ⟨σ', H', J'.ofTry ok, q⟩
    | brk => obtain ⟨σ', H', J', q⟩ := hsp; exact ⟨σ', H', J'.ofTry ok, q⟩
    | cont => obtain ⟨σ', H', J', q⟩ := hsp; exact ⟨σ', H', J'.ofTry ok, q⟩
    | ret u => obtain ⟨v, σ', H', J', r, q⟩ := hsp; exact ⟨v, σ', H', J'.ofTry ok, r, q⟩
end
/-! ### exceptions as data: a code, a number, a list -/
structure Er where
  c : Nat
  n : Int
  r : List Int
instance : Inhabited Er := ⟨⟨0, 0, []⟩⟩
def erD (e : Er) : PyData := if e.c = 4 then .tuple [.int e.n, .list (e.r.map .int)] else if e.c = 9 then .int e.n else .bool true
def flE (e : Er) : Option (List (Str × OT)) := if e.c = 4 then some [("reached", .d (.list (e.r.map .int))), ("wish", .d (.int e.n))] else if e.c = 9 then some [("part", .d (.int e.n))] else none
abbrev er (c : Nat) : Er := ⟨c, 0, []⟩
/-- what a def that may raise comes to -/
def resE {α : Type} (A : Nat → Addr) (f : α → PyData) : Except Er α → Res
  | .ok v => .ok (.d (f v))
  | .error e => .ex (A e.c) (flE e)
def resEO {α : Type} (A : Nat → Addr) (o : α → OT) : Except Er α → Res
  | .ok v => .ok (o v)
  | .error e => .ex (A e.c) (flE e)
def okvE {α : Type} [Inhabited α] : Except Er α → α
  | .ok v => v
  | .error _ => default
theorem resE_okv {α : Type} [Inhabited α] {A : Nat → Addr} {f : α → PyData} {m : Except Er α} (h : m = .ok (okvE m)) : Res.ok (.d (f (okvE m))) = resE A f m := by
  generalize okvE m = v at *
  subst h
  rfl
theorem resEO_okv {α : Type} [Inhabited α] {A : Nat → Addr} {o : α → OT} {m : Except Er α} (h : m = .ok (okvE m)) : Res.ok (o (okvE m)) = resEO A o m := by
  generalize okvE m = v at *
  subst h
  rfl
theorem erD_n {e : Er} (h4 : e.c ≠ 4) (h9 : e.c ≠ 9) : erD e = .bool true := by unfold erD; rw [if_neg h4, if_neg h9]
/-- the fields that an exception's dict holds are those of its data -/
theorem fld_data {K : PySem.W.Frag} {W : List Addr} {H : Hp} {e : Er} {d : Addr} {gs : List (Str × V)} {fs : List (Str × OT)} {F : List Addr} (hfs : flE e = some fs) (h : FldR K W H gs fs F) (hd : (fz W H) d = some (.xd gs)) : F = [] ∧ FdR K (fz W H) (some d) (erD e) := by
  unfold flE at hfs
  by_cases h4 : e.c = 4
  · rw [if_pos h4] at hfs
    cases hfs
    unfold erD
    rw [if_pos h4]
    cases h with
    | cons h1 h2 =>
      cases h2 with
      | cons h3 h5 =>
        cases h5
        cases h1 with
        | d r1 =>
          cases h3 with
          | d r3 =>
            cases r3
            cases r1 with
            | lst s1 s2 =>
              have := RA.ofInts s2
              subst this
              exact ⟨rfl, .w hd s1⟩
  · rw [if_neg h4] at hfs
    by_cases h9 : e.c = 9
    · rw [if_pos h9] at hfs
      cases hfs
      unfold erD
      rw [if_neg h4, if_pos h9]
      cases h with
      | cons h1 h2 =>
        cases h2
        cases h1 with
        | d r1 =>
          cases r1
          exact ⟨rfl, .p hd⟩
    · rw [if_neg h9] at hfs
      cases hfs
section
variable {X : Cx} {W : WX} {A : Nat → Addr} {rest : List Stmt} {E E' : List Sl} {P : Out → Prop} {e a b c : Expr} {es : List Expr} {xs : List PyData} {pos : Pos} {er : Er}
/-- a call that raises, as a statement -/
theorem ds_exprE {f : Str} {nm : Pos} {k : Nat} {Rf : List PyData → Res → Prop} {C : Addr} {fs : Option (List (Str × OT))} (T : CxF X W) (F : FnD X f k Rf) (hg : Gl X f) (ha : DA X E (e :: es) xs) (h : Rf xs (.ex C fs)) (hfs : ∃ er : Er, fs = flE er) (hP : P (.ex C fs E)) (hk : xs.length = k := by rfl) (hdb : (f == ("__debug__" : Str)) = false := by decide)
    (he : starEach (e :: es) X.env = (false, eval e X.env) :: starEach es X.env := by rfl) {cp : Pos} (hpl : (backTo cp (starEach es X.env)).any (·.1) = false := by rfl) (hs : swapsWith (.Call (.Name f nm) (e :: es) [] cp) none pos.line X.env = pure false := by rfl) : DSs X W (.Expr (.Call (.Name f nm) (e :: es) [] cp) pos :: rest) E P := by
  obtain ⟨g, fd, ps, k, ok, hr, hm, hkp, hb⟩ := F.ex
  obtain ⟨ta, a1, a2⟩ := ha
  refine ⟨fun M L H σ D I kk => ⟨_, pss_cons (ps_expr (L2.pe_callS ok hr hg hm hkp hb (fun σ => passAt T.take σ) a1 hdb he hpl) hs) pss_all, a2 M L H σ _ I fun vs H1 s1 r1 => ?_⟩⟩
  refine ⟨L ++ M, xs, .ex C fs, hk, (I.same s1).dom, r1, h, ?_⟩
  cases fs with
  | none => exact fun H' s2 => kk.ex C E L H' σ hP (Step.same (s1.trans s2)) (I.same (s1.trans s2))
  | some fs =>
    intro d gs H' F s2 hd hdF hdx nF hF fr
    obtain ⟨er, hfs⟩ := hfs
    have nd : H d = none := by
      cases q : H d with
      | none => rfl
      | some o => rw [s1 _ _ q] at hd; cases hd
    have hF0 : F = [] := by
      unfold flE at hfs
      split at hfs
      · cases hfs; cases fr with
        | cons h1 h2 => cases h1; cases h2 with
          | cons h3 h4 => cases h3; cases h4; rfl
      · split at hfs
        · cases hfs; cases fr with
          | cons h1 h2 => cases h1; cases h2; rfl
        · cases hfs
    subst hF0
    exact kk.exd C fs E L H' σ d gs [] hP (Step.same (s1.trans s2)) (I.same (s1.trans s2)) nd (fun z => I.dom d (List.mem_append_left _ z) nd) hdx List.nodup_nil (fun a ha => by cases ha) fr
end
end D
namespace D
open PySem L2 PySem.Spec PyProof.Rows
/-! ### an own exception with fields is made -/
/-- a class whose __init__ is asked for by the class's name -/
structure RinC (K : PySem.W.Frag) (R : Addr) : Prop where
  ga : PySem.W.specialIn K (.ref R) "__getattribute__" = some (some (.builtin "type.__getattribute__"))
  rd : PySem.W.readsIn K R (.type "type") = true
  fi : PySem.W.findCls K (.ref R) (.type "type") "__init__" = some (.val (.builtin "ValueError.__init__"))
theorem pe_rinit {X : Cx} {x : Str} {R : Addr} {e : Expr} {es : List Expr} {ta : TA} {p1 p2 pos : Pos} {pl : Sem Bool} (F : RinC X.K R) (hg : Gl X x) (hm : X.mg x = some (.ref R)) (ha : PA X (e :: es) ta)
    (hc : eval (.Call (.Attribute (.Name x p1) "__init__" p2) (e :: es) [] pos) X.env = (do
      let ov ← eval (.Name x p1) X.env
      standAt p2.atName
      let (f, first) ← holding [ov] (getMethod ov "__init__" pl)
      callWith pos f first (backTo pos (starEach (e :: es) X.env)) (backToKw pos (keywordEach [] X.env))) := by rfl) (hdb : (x == ("__debug__" : Str)) = false := by decide)
    (he : starEach (e :: es) X.env = (false, eval e X.env) :: starEach es X.env := by rfl) (hpl : (backTo pos (starEach es X.env)).any (·.1) = false := by rfl) :
    PE X (.Call (.Attribute (.Name x p1) "__init__" p2) (e :: es) [] pos) (tVeI X.K ta) := by
  refine ⟨fun pins s σ H Q I h => ?_⟩
  refine PySem.W.methodCall_KW (ld_glob I hg hm ?_ hdb) hc
  refine PySem.W.method_cls I.kIn F.ga (PySem.W.cls_value I.kIn F.rd F.fi (by decide +kernel) ?_)
  show wpAny _ _ (callWith pos (Value.builtin "ValueError.__init__") [] (backTo pos (starEach (e :: es) X.env)) []) _ _ _
  refine callWith_method1 (thn (ha.run pos pins _ σ H _ (I.tok _) h) fun us s1 hh => ?_) he hpl
  obtain ⟨vs, H1, I1, r1, a, C, ws, ev, hl, T, ea, q⟩ := hh
  subst ev
  cases r1 with
  | @cons _ u0 _ ur ra rw' =>
    cases (show u0 = Value.ref a from ra)
    have hlen : ur.length ≤ sizeLine := by
      rw [← Paired.length rw', sizeLine_eq]
      omega
    exact oinit_ok T I1 ea hlen fun s' J => ⟨.non, H1, J, rfl, q⟩
/-- what __init__(self, wish, reached) promises -/
def spNW (K : PySem.W.Frag) (C : Addr) : Sp := fun vs H Q _ => ∃ a v1 v2, vs = [.ref a, v1, v2] ∧ OexC K C ∧ H a = some (exo a C none) ∧ ∀ dx, H dx = none → dx ≠ a → Q .non (upd (upd (upd H dx (exd dx [("wish", v1)])) a (exo a C (some dx))) dx (exd dx [("reached", v2), ("wish", v1)]))
/-- what __init__(self, part) promises -/
def spNT (K : PySem.W.Frag) (C : Addr) : Sp := fun vs H Q _ => ∃ a v1, vs = [.ref a, v1] ∧ OexC K C ∧ H a = some (exo a C none) ∧ ∀ dx, H dx = none → dx ≠ a → Q .non (upd (upd H dx (exd dx [("part", v1)])) a (exo a C (some dx)))
/-- an own exception class with its own __init__ -/
structure IniC (P : Program) (w : World) (K : PySem.W.Frag) (mg : Str → Option Value) (base : Heap) (x : Str) (C : Addr) (sp : Sp) : Prop where
  ex : ∃ (fI : Addr) (fd : FuncData) (ps : List Str), OexC K C ∧ mg x = some (.ref C) ∧ PySem.W.findIn K (.ref C) "__init__" = some (some (.ref fI)) ∧ PySem.W.typeIn K (.ref fI) = some (.type "function") ∧ FnOk P w K mg base (L2.CX P w) 1 fI fd ps sp ∧ Binds K fd ps []
section
variable {X : Cx} {W : WX} {A : Nat → Addr} {rest : List Stmt} {E E' : List Sl} {P : Out → Prop} {e a b c : Expr} {es : List Expr} {xs : List PyData} {pos : Pos}
theorem ds_raiseW {x : Str} {C : Addr} {n : Int} {ns : List Int} {p1 p3 : Pos} (T : CxF X W) (O : IniC X.prog X.w X.K X.mg X.base x C (spNW X.K C)) (hr : Room 2 X.A) (hg : Gl X x) (ha : DA X E (a :: b :: []) [.int n, .list (ns.map .int)]) (h : P (.ex C (some [("reached", .d (.list (ns.map .int))), ("wish", .d (.int n))]) E))
    (hdb : (x == ("__debug__" : Str)) = false := by decide) (he : starEach (a :: b :: []) X.env = (false, eval a X.env) :: starEach [b] X.env := by rfl) (hpl : (backTo p3 (starEach [b] X.env)).any (·.1) = false := by rfl) :
    DSs X W (.Raise (some (.Call (.Name x p1) [a, b] [] p3)) none pos :: rest) E P := by
  obtain ⟨fI, fd, ps, hO, hm, iC, tI, ok, hb⟩ := O.ex
  obtain ⟨ta, a1, a2⟩ := ha
  refine ⟨fun M L H σ D I k => ⟨_, pss_cons (L2.ps_raise T.calm T.take (pmk_oex hO iC tI ok hr hb .nil (passes_call T.take (fun _ _ _ _ z => z.elim)) hg hm a1 hdb he hpl)) pss_all, a2 M L H σ _ I fun vs H1 s1 r1 => ?_⟩⟩
  cases r1 with
  | @cons v1 _ _ _ q1 r2 =>
    cases r2 with
    | @cons v2 _ _ _ q2 r3 =>
      cases r3
      refine ⟨(by show 2 ≤ 1000; decide), fun a na => ?_⟩
      refine ⟨a, v1, v2, rfl, hO, upd_same, fun dx nd ne => ?_⟩
      have nd1 : H1 dx = none := by rw [upd_ne ne] at nd; exact nd
      refine ⟨rfl, dx, _, by rw [upd_ne (fun z => ne z.symm), upd_same], upd_same, nd1, ?_⟩
      have eH : upd (del (upd (upd (upd (upd H1 a (exo a C none)) dx (exd dx [("wish", v1)])) a (exo a C (some dx))) dx (exd dx [("reached", v2), ("wish", v1)])) a) dx (.xd [("reached", v2), ("wish", v1)]) = upd H1 dx (.xd [("reached", v2), ("wish", v1)]) := by
        funext c
        by_cases c1 : c = dx
        · rw [c1, upd_same, upd_same]
        · rw [upd_ne c1, upd_ne c1]
          by_cases c2 : c = a
          · rw [c2, del_same, na]
          · rw [del_ne c2, upd_ne c1, upd_ne c2, upd_ne c1, upd_ne c2]
      rw [eH]
      have s2 : Same H1 (upd H1 dx (.xd [("reached", v2), ("wish", v1)])) := same_new nd1
      have nd0 : H dx = none := by
        cases q : H dx with
        | none => rfl
        | some o => rw [s1 _ _ q] at nd1; cases nd1
      have nW : dx ∉ L ++ M := fun z => I.dom dx z nd0
      refine k.exd C _ E L _ σ dx _ [] h (Step.same (s1.trans s2)) (I.same (s1.trans s2)) nd0 (fun z => nW (List.mem_append_left _ z)) upd_same List.nodup_nil (fun a ha => by cases ha) ?_
      have e2 := R.same (fz_same s2) _ _ q2
      have e1 := R.same (fz_same s2) _ _ q1
      exact FldR.cons (F := []) (.d e2) (FldR.cons (F := []) (.d e1) .nil)
theorem ds_raiseT {x : Str} {C : Addr} {n : Int} {p1 p3 : Pos} (T : CxF X W) (O : IniC X.prog X.w X.K X.mg X.base x C (spNT X.K C)) (hr : Room 2 X.A) (hg : Gl X x) (ha : DA X E (a :: []) [.int n]) (h : P (.ex C (some [("part", .d (.int n))]) E))
    (hdb : (x == ("__debug__" : Str)) = false := by decide) (he : starEach (a :: []) X.env = (false, eval a X.env) :: starEach [] X.env := by rfl) (hpl : (backTo p3 (starEach [] X.env)).any (·.1) = false := by rfl) :
    DSs X W (.Raise (some (.Call (.Name x p1) [a] [] p3)) none pos :: rest) E P := by
  obtain ⟨fI, fd, ps, hO, hm, iC, tI, ok, hb⟩ := O.ex
  obtain ⟨ta, a1, a2⟩ := ha
  refine ⟨fun M L H σ D I k => ⟨_, pss_cons (L2.ps_raise T.calm T.take (pmk_oex hO iC tI ok hr hb .nil (passes_call T.take (fun _ _ _ _ z => z.elim)) hg hm a1 hdb he hpl)) pss_all, a2 M L H σ _ I fun vs H1 s1 r1 => ?_⟩⟩
  cases r1 with
  | @cons v1 _ _ _ q1 r2 =>
    cases r2
    refine ⟨(by show 1 ≤ 1000; decide), fun a na => ?_⟩
    refine ⟨a, v1, rfl, hO, upd_same, fun dx nd ne => ?_⟩
    have nd1 : H1 dx = none := by rw [upd_ne ne] at nd; exact nd
    refine ⟨rfl, dx, [("part", v1)], upd_same, by rw [upd_ne ne, upd_same], nd1, ?_⟩
    have eH : upd (del (upd (upd (upd H1 a (exo a C none)) dx (exd dx [("part", v1)])) a (exo a C (some dx))) a) dx (.xd [("part", v1)]) = upd H1 dx (.xd [("part", v1)]) := by
      funext c
      by_cases c1 : c = dx
      · rw [c1, upd_same, upd_same]
      · rw [upd_ne c1, upd_ne c1]
        by_cases c2 : c = a
        · rw [c2, del_same, na]
        · rw [del_ne c2, upd_ne c2, upd_ne c1, upd_ne c2]
    rw [eH]
    have s2 : Same H1 (upd H1 dx (.xd [("part", v1)])) := same_new nd1
    have nd0 : H dx = none := by
      cases q : H dx with
      | none => rfl
      | some o => rw [s1 _ _ q] at nd1; cases nd1
    have nW : dx ∉ L ++ M := fun z => I.dom dx z nd0
    refine k.exd C _ E L _ σ dx _ [] h (Step.same (s1.trans s2)) (I.same (s1.trans s2)) nd0 (fun z => nW (List.mem_append_left _ z)) upd_same List.nodup_nil (fun a ha => by cases ha) ?_
    have e1 := R.same (fz_same s2) _ _ q1
    exact FldR.cons (F := []) (.d e1) .nil
/-! ### what is asked of an exception -/
end
end D
namespace D
open PySem L2 PySem.Spec PyProof.Rows
/-! ### count and index in a list of truths -/
section
variable {X : Cx} {E : List Sl} {a b : Expr} {pos nm : Pos} {bs : List Bool} {y : Bool}
end
/-! ### a raising call's outcome, kept -/
def exG {α σ ρ : Type} (g : Except Er α) (k : α → Go σ (Except Er ρ)) : Go σ (Except Er ρ) := match g with
  | .ok v => k v
  | .error e => .rt (.error e)
theorem exG_er {α σ ρ : Type} {e : Er} {k : α → Go σ (Except Er ρ)} : exG (.error e) k = .rt (.error e) := rfl
section
variable {X : Cx} {W : WX} {rest : List Stmt} {E E' : List Sl} {P : Out → Prop} {e a b c : Expr} {es : List Expr} {xs : List PyData} {pos : Pos}
end
end D
namespace D
open PySem L2 PySem.Spec PyProof.Rows
def OexCls (K : PySem.W.Frag) (C : Addr) : Prop := ∃ nm q N bs bm sn sub ab col dd k0 k1 k2 k3 k5, K.lookup C = some (excClassObj nm q C N bs bm true sn sub ab col dd k0 k1 k2 k3 k5 "ValueError.__new__") ∧ PySem.HandSPX.refsVE bm = true
theorem ini_w {P : Program} {w : World} {K : PySem.W.Frag} {mg : Str → Option Value} {base : Heap} {x : Str} {C fI : Addr} {fd : FuncData} {ps : List Str} {sp : Sp} (h1 : OexCls K C) (h2 : PySem.W.findIn K (.ref C) "__setattr__" = some (some (.builtin "object.__setattr__"))) (h3 : PySem.W.subIn K (.ref C) (.type "BaseException") = some true)
    (h4 : PySem.W.typeIn K (.ref C) = some (.type "type")) (h5 : PySem.W.keepIn K (.ref C) = true) (hm : mg x = some (.ref C)) (h6 : PySem.W.findIn K (.ref C) "__init__" = some (some (.ref fI))) (h7 : PySem.W.typeIn K (.ref fI) = some (.type "function"))
    (F : FnOk P w K mg base (L2.CX P w) 1 fI fd ps sp) (b : Binds K fd ps []) : IniC P w K mg base x C sp := ⟨fI, fd, ps, ⟨h1, h2, h3, h4, h5⟩, hm, h6, h7, F, b⟩
theorem cd_of {K : PySem.W.Frag} {C : Addr} (e : ExcC K C) (h1 : PySem.W.subIn K (.ref C) (.type "int") = some false) (h2 : PySem.W.subIn K (.ref C) (.type "bool") = some false) (h3 : PySem.W.subIn K (.ref C) (.type "tuple") = some false) (h4 : PySem.W.subIn K (.ref C) (.type "list") = some false) (h5 : PySem.W.subIn K (.ref C) (.type "str") = some false) : ExcK K C :=
  ⟨e, kit_tyF (by rfl) h1, kit_tyF (by rfl) h2, kit_tyF (by rfl) h3, kit_tyF (by rfl) h4, kit_tyF (by rfl) h5⟩
end D

end

section
set_option Elab.async false
set_option linter.all false
set_option autoImplicit false
set_option maxRecDepth 100000
set_option maxHeartbeats 2000000
namespace D
open PySem L2 PySem.Spec PyProof.Rows
/-! ### xs * n, xs any list -/
section
variable {X : Cx} {E : List Sl} {a b : Expr} {pos : Pos} {α : Type} {f : α → PyData} {xs : List α} {i : Int}
end
end D

end

section
set_option Elab.async false
set_option linter.all false
set_option autoImplicit false
set_option maxRecDepth 100000
set_option maxHeartbeats 2000000
namespace D
open PySem L2 PySem.Spec PyProof.Rows
section
variable {X : Cx} {W : WX} {E E' : List Sl} {P : Out → Prop} {a b e : Expr} {pos : Pos} {i j : Int} {x y : PyData}
/-! ### bits -/
/-! ### a, b = a list of two -/
/-! ### is not None, as a truth -/
end
end D

end

section
set_option Elab.async false
set_option linter.all false
set_option autoImplicit false
set_option maxRecDepth 100000
set_option maxHeartbeats 2000000
namespace D
open PySem L2 PySem.Spec PyProof.Rows
/-! ### texts -/
theorem ra_strs {K : PySem.W.Frag} {H : Hp} : ∀ ys : List Str, RA K H (ys.map V.str) (ys.map PyData.str)
  | [] => .nil
  | y :: ys => .cons (.str y) (ra_strs ys)
theorem strs_ra {K : PySem.W.Frag} {H : Hp} : ∀ {ys : List Str} {vs : List V}, RA K H vs (ys.map PyData.str) → vs = ys.map V.str
  | [], _, h => by cases h; rfl
  | y :: ys, _, h => by
    cases h with
    | cons h1 h2 =>
      cases h1
      rw [strs_ra h2]
      rfl
section
variable {X : Cx} {W : WX} {E : List Sl} {a b o e : Expr} {es : List Expr} {pos apos : Pos} {x y z : Str} {i : Int} {ys : List Str} {d : PyData} {ds : List PyData} {P : Out → Prop}
/-- x.split(y) -/
theorem dn_split (ho : DE X E o (.str x)) (he : DE X E e (.str y)) (hy : (y.length == 0) = false) (hx : x.length + 2 ≤ sizeLine) (hs : starEach [e] X.env = [(false, eval e X.env)] := by rfl) (hbase : attributeBase o "split" X.env (eval o X.env) = eval o X.env := by rfl) (hline : (apos.endLine == pos.line) = true := by rfl) : DN X E (.Call (.Attribute o "split" apos) [e] [] pos) (oL PyData.str (Txt.split x y)) := by
  obtain ⟨to, o1, o2⟩ := ho
  obtain ⟨te, e1, e2⟩ := he
  refine ⟨_, pe_split o1 e1 hs hbase hline, fun M L H σ Q I k => o2 M L H σ _ I fun v H1 s1 r1 => ?_⟩
  cases r1
  refine ⟨⟨_, rfl⟩, e2 M L H1 σ _ (I.same s1) fun u H2 s2 r2 => ?_⟩
  cases r2
  exact ⟨x, y, rfl, rfl, hy, hx, fun p hp => own_new I (s1.trans s2) (ra_strs _) hp k⟩
/-- x.partition(y) -/
theorem de_partition (ho : DE X E o (.str x)) (he : DE X E e (.str y)) (hy : (y.length == 0) = false) (hx : x.length ≤ sizeLine) (hs : starEach [e] X.env = [(false, eval e X.env)] := by rfl) (hbase : attributeBase o "partition" X.env (eval o X.env) = eval o X.env := by rfl) (hline : (apos.endLine == pos.line) = true := by rfl) : DE X E (.Call (.Attribute o "partition" apos) [e] [] pos) (.tuple [.str (Txt.partition x y).1, .str (Txt.partition x y).2.1, .str (Txt.partition x y).2.2]) := by
  obtain ⟨to, o1, o2⟩ := ho
  obtain ⟨te, e1, e2⟩ := he
  refine ⟨_, pe_partition o1 e1 hs hbase hline, fun M L H σ Q I k => o2 M L H σ _ I fun v H1 s1 r1 => ?_⟩
  cases r1
  refine ⟨⟨_, rfl⟩, e2 M L H1 σ _ (I.same s1) fun u H2 s2 r2 => ?_⟩
  cases r2
  refine ⟨x, y, rfl, rfl, hy, hx, fun p hp => ?_⟩
  have s12 := s1.trans s2
  have sp := same_new (o := .tup [V.str (Txt.partition x y).1, V.str (Txt.partition x y).2.1, V.str (Txt.partition x y).2.2]) hp
  have np : p ∉ L ++ M := fun q => (I.same s12).dom p q hp
  exact k _ _ (s12.trans sp) (.tup (.inl (.inl (by rw [fz_of np]; exact upd_same))) (.cons (.str _) (.cons (.str _) (.cons (.str _) .nil))))
/-- x.join(ys) -/
theorem de_join (ho : DE X E o (.str x)) (he : DE X E e (eL PyData.str ys)) (hz : (ys.map (·.length)).sum + ys.length * x.length ≤ 16777216) (hs : starEach [e] X.env = [(false, eval e X.env)] := by rfl) (hbase : attributeBase o "join" X.env (eval o X.env) = eval o X.env := by rfl) (hline : (apos.endLine == pos.line) = true := by rfl) : DE X E (.Call (.Attribute o "join" apos) [e] [] pos) (.str (Txt.join x ys)) := by
  obtain ⟨to, o1, o2⟩ := ho
  obtain ⟨te, e1, e2⟩ := he
  refine ⟨_, pe_join o1 e1 hs hbase hline, fun M L H σ Q I k => o2 M L H σ _ I fun v H1 s1 r1 => ?_⟩
  cases r1
  refine ⟨⟨_, rfl⟩, e2 M L H1 σ _ (I.same s1) fun u H2 s2 r2 => ?_⟩
  cases r2 with
  | lst hq hr =>
    have ev := strs_ra hr
    subst ev
    exact ⟨x, _, ys, rfl, rfl, .inl (fz_sub.seq hq), hz, k _ H2 (s1.trans s2) (.str _)⟩
/-- int(word) -/
theorem de_intS {nm : Pos} (ha : DE X E a (.str x)) (hi : PySem.intText? x = some i) (hl : x.length ≤ 640) (hg : Gl X "int") (hm : X.mg "int" = none) (hs : starEach [a] X.env = (false, eval a X.env) :: starEach [] X.env := by rfl) : DE X E (.Call (.Name "int" nm) [a] [] pos) (.int i) := by
  obtain ⟨ta, a1, a2⟩ := ha
  refine ⟨_, pe_callTy call_int_str hg hm (by decide +kernel) (pa_cons a1 pa_nil hs) (he := hs), fun M L H σ Q I k => a2 M L H σ _ I fun v H1 s1 r1 => ?_⟩
  cases r1
  exact ⟨x, i, rfl, hi, hl, k _ H1 s1 (.int _)⟩
/-- len(word) -/
theorem de_lenS {nm : Pos} (ha : DE X E a (.str x)) (hl : x.length ≤ sizeLine) (hg : Gl X "len") (hm : X.mg "len" = none) (hs : starEach [a] X.env = (false, eval a X.env) :: starEach [] X.env := by rfl) : DE X E (.Call (.Name "len" nm) [a] [] pos) (.int (x.length : Int)) := by
  obtain ⟨ta, a1, a2⟩ := ha
  refine ⟨_, pe_callB call_len_str hg hm PySem.boot_len (pa_cons a1 pa_nil hs) (he := hs), fun M L H σ Q I k => a2 M L H σ _ I fun v H1 s1 r1 => ?_⟩
  cases r1
  exact ⟨x, rfl, hl, k _ H1 s1 (.int _)⟩
/-- word[i] -/
theorem de_ixStr {c : Nat} (ha : DE X E a (.str x)) (hb : DE X E b (.int i)) (hl : x.length ≤ sizeLine) (hc : atI x.cps.toList i = some c) (hs : PlainIx b := by exact fun _ _ => rfl) : DE X E (.Subscript a b pos) (.str ⟨#[c]⟩) := by
  obtain ⟨ta, a1, a2⟩ := ha
  obtain ⟨tb, b1, b2⟩ := hb
  refine ⟨_, pe_ix ix_str a1 b1 hs, ev_2 a2 b2 fun M L H σ v w Q I r1 r2 k => ?_⟩
  cases r1
  cases r2
  exact ⟨x, i, c, rfl, rfl, hl, hc, k _ H (Same.refl H) (.str _)⟩
/-- x + y -/
theorem de_addS (ha : DE X E a (.str x)) (hb : DE X E b (.str y)) (hl : x.length + y.length ≤ sizeLine) : DE X E (.BinOp a .Add b pos) (.str (x ++ y)) :=
  de_bin op_add_str ha hb fun M L H σ v w Q I r1 r2 k => by cases r1; cases r2; exact ⟨x, y, rfl, rfl, hl, k _ H (Same.refl H) (.str _)⟩
/-- for sign in a text -/
def signs (x : Str) : List Str := x.cps.toList.map fun c => ⟨#[c]⟩
theorem di_str {tg : Expr} (ha : DE X E a (.str x)) : DI X E tg a ((signs x).map PyData.str) := by
  obtain ⟨ta, a1, a2⟩ := ha
  refine ⟨fun M L H σ Rr I k => ⟨_, pi_str a1, a2 M L H σ _ I fun v H1 s1 r1 => ?_⟩⟩
  cases r1
  refine ⟨x, rfl, k _ H1 s1 ?_⟩
  have hl : ((signs x).map PyData.str).length = x.cps.size := by unfold signs; rw [List.length_map, List.length_map]; exact Array.length_toList
  refine ⟨fun _ => True, fun i H v H' => H' = H ∧ ∃ c, x.cps[i]? = some c ∧ v = .str ⟨#[c]⟩, hl ▸ ⟨fun i H h _ => h, fun H _ => Nat.le_refl _, fun i H v H' _ _ h => h⟩, fun W H s => trivial, fun W H i v H' s _ hi y => ?_⟩
  obtain ⟨rfl, c, h1, rfl⟩ := y
  refine ⟨Same.refl _, _, ?_, .str _⟩
  unfold signs
  rw [List.getElem?_map, List.getElem?_map, Array.getElem?_toList, h1]
  rfl
/-! ### f-strings -/
theorem de_fmtI {p : Pos} (he : DE X E e (.int i)) (h : i.natAbs.log2 < 1920) : DE X E (.FormattedValue e (-1) none p) (.str (toString i)) := by
  obtain ⟨te, e1, e2⟩ := he
  refine ⟨_, pe_fmt e1, fun M L H σ Q I k => e2 M L H σ _ I fun v H1 s1 r1 => ?_⟩
  cases r1
  exact .inr ⟨i, rfl, h, k _ H1 s1 (.str _)⟩
def joinL : List Str → Str → Str
  | [], acc => acc
  | y :: ys, acc => joinL ys (acc ++ y)
def sumL (ys : List Str) : Nat := (ys.map (·.length)).sum
structure DJ (X : Cx) (E : List Sl) (es : List Expr) (ys : List Str) : Prop where
  ex : ∃ ts, PJ X es ts ∧ ∀ (M L : List Addr) (H : Hp) (σ : L2.St) (acc : Str) (Q : Str → Hp → Prop), EnvR X.K M L H σ E → acc.length + sumL ys ≤ sizeLine → (∀ H', Same H H' → Q (joinL ys acc) H') → tJs ts acc σ H Q
theorem len_app (x y : Str) : (x ++ y).length = x.length + y.length := by
  rw [TL.len_tl, TL.tl_append, List.length_append, ← TL.len_tl, ← TL.len_tl]
theorem dj_nil : DJ X E [] [] := ⟨[], .nil, fun M L H σ acc Q I _ k => k H (Same.refl H)⟩
theorem dj_cons (he : DE X E e (.str y)) (hr : DJ X E es ys) : DJ X E (e :: es) (y :: ys) := by
  obtain ⟨te, e1, e2⟩ := he
  obtain ⟨ts, r1, r2⟩ := hr
  refine ⟨te :: ts, .cons e1 r1, fun M L H σ acc Q I hl k => e2 M L H σ _ I fun v H1 s1 q1 => ?_⟩
  cases q1
  have hl2 : (acc ++ y).length + sumL ys ≤ sizeLine := by
    rw [len_app]
    have e : sumL (y :: ys) = y.length + sumL ys := rfl
    omega
  exact ⟨y, rfl, by omega, r2 M L H1 σ (acc ++ y) Q (I.same s1) hl2 fun H' s2 => k H' (s1.trans s2)⟩
theorem de_joined {v1 v2 : Expr} {rest : List Expr} (h : DJ X E (v1 :: v2 :: rest) ys) (hl : sumL ys ≤ sizeLine) : DE X E (.JoinedStr (v1 :: v2 :: rest) pos) (.str (joinL ys Str.empty)) := by
  obtain ⟨ts, h1, h2⟩ := h
  exact ⟨_, pe_joined h1, fun M L H σ Q I k => h2 M L H σ Str.empty _ I (by rw [show Str.empty.length = 0 from rfl]; omega) fun H' s => k _ H' s (.str _)⟩
/-! ### {"a": 1, ..}.get(word) -/
structure DPs (X : Cx) (E : List Sl) (pos : Pos) (keys : List (Option Expr)) (vals : List Expr) (kvs : List (Str × Int)) : Prop where
  ex : ∃ trs, PPs X pos keys vals trs ∧ ∀ (M L : List Addr) (H : Hp) (σ : L2.St) (Q : List (V × V) → Hp → Prop), EnvR X.K M L H σ E → (∀ H', Same H H' → Q (kvs.map fun p => (V.str p.1, V.int p.2)) H') → tPairs trs σ H Q
theorem dps_nil {p : Pos} : DPs X E p [] [] [] := ⟨[], pps_nil, fun M L H σ Q I k => k H (Same.refl H)⟩
theorem dps_cons {p : Pos} {ka va : Expr} {keys : List (Option Expr)} {vals : List Expr} {kvs : List (Str × Int)} (hk : DE X E ka (.str x)) (hv : DE X E va (.int i)) (hr : DPs X E p keys vals kvs) : DPs X E p (some ka :: keys) (va :: vals) ((x, i) :: kvs) := by
  obtain ⟨tk, k1, k2⟩ := hk
  obtain ⟨tv, v1, v2⟩ := hv
  obtain ⟨trs, r1, r2⟩ := hr
  refine ⟨(tk, tv) :: trs, pps_cons k1 v1 r1, fun M L H σ Q I k => k2 M L H σ _ I fun a H1 s1 q1 => v2 M L H1 σ _ (I.same s1) fun b H2 s2 q2 => ?_⟩
  cases q1
  cases q2
  exact r2 M L H2 σ _ (I.same (s1.trans s2)) fun H' s3 => k H' ((s1.trans s2).trans s3)
def getS (kvs : List (Str × Int)) (y : Str) : Option Int := (kvs.find? fun p => decide (p.1 = y)).map (·.2)
def kvS (kvs : List (Str × Int)) : List (Key × V) := kvs.map fun p => (.inr p.1, V.int p.2)
theorem valV_S (y : Str) : ∀ kvs : List (Str × Int), valV (kvS kvs) (.inr y) = (getS kvs y).map V.int
  | [] => rfl
  | p :: kvs => by
    have ih := valV_S y kvs
    by_cases c : p.1 = y
    · rw [show kvS (p :: kvs) = ((.inr p.1 : Key), V.int p.2) :: kvS kvs from rfl, valV_pos (show (Sum.inr p.1 : Key) = .inr y from congrArg Sum.inr c)]
      have e : (p :: kvs).find? (fun p => decide (p.1 = y)) = some p := by simp [List.find?_cons, c]
      unfold getS
      rw [e]
      rfl
    · rw [show kvS (p :: kvs) = ((.inr p.1 : Key), V.int p.2) :: kvS kvs from rfl, valV_neg (fun z : (Sum.inr p.1 : Key) = .inr y => c (Sum.inr.inj z)), ih]
      have e : (p :: kvs).find? (fun p => decide (p.1 = y)) = kvs.find? (fun p => decide (p.1 = y)) := by simp [List.find?_cons, c]
      unfold getS
      rw [e]
theorem mergeK_S : ∀ (kvs : List (Str × Int)) (acc : List (Str × Int)), ((acc ++ kvs).map (·.1)).Nodup → mergeK (kvS acc) (kvS kvs) = kvS (acc ++ kvs)
  | [], acc, _ => by rw [List.append_nil]; rfl
  | p :: kvs, acc, h => by
    have e : putK (kvS acc) (.inr p.1 : Key) (V.int p.2) = kvS (acc ++ [p]) := by
      unfold putK
      have hn : ((kvS acc).any fun kv => decide (kv.1 = (.inr p.1 : Key))) = false := by
        rw [List.any_eq_false]
        intro kv hkv hd
        unfold kvS at hkv
        obtain ⟨q, hq, rfl⟩ := List.mem_map.mp hkv
        have e1 : q.1 = p.1 := Sum.inr.inj (of_decide_eq_true hd)
        rw [List.map_append, List.nodup_append] at h
        exact h.2.2 q.1 (List.mem_map.mpr ⟨q, hq, rfl⟩) p.1 (by simp) e1
      rw [if_neg (by rw [hn]; decide)]
      unfold kvS
      rw [List.map_append]
      rfl
    have ih := mergeK_S kvs (acc ++ [p]) (by rw [List.append_assoc]; exact h)
    rw [List.append_assoc] at ih
    show mergeK (putK (kvS acc) (.inr p.1 : Key) (V.int p.2)) (kvS kvs) = _
    rw [e]
    exact ih
theorem de_dgetS {keys : List (Option Expr)} {vals : List Expr} {kvs : List (Str × Int)} {dpos cpos : Pos} (hu : X.A.units + 64 < cLine) (hd : DPs X E dpos keys vals kvs) (he : DE X E e (.str y)) (hn : (kvs.map (·.1)).Nodup) (h15 : kvs.length ≤ 15) (m : M1 X (.Dict keys vals dpos) "get" apos e cpos := by exact ⟨rfl, rfl, rfl, rfl⟩) (hall : keys.all (·.isSome) = true := by rfl) (hl : keys.length = vals.length := by rfl) (h0 : keys ≠ [] := by exact fun z => nomatch z) (hk15 : Nat.ble keys.length 15 = true := by rfl) :
    DE X E (.Call (.Attribute (.Dict keys vals dpos) "get" apos) [e] [] cpos) (eO PyData.int (getS kvs y)) := by
  obtain ⟨trs, d1, d2⟩ := hd
  obtain ⟨te, e1, e2⟩ := he
  refine ⟨_, pe_dget1 (by omega) (pe_disp d1 hall hl h0 (Nat.le_of_ble_eq_true hk15)) e1 m, fun M L H σ Q I k => ?_⟩
  intro p hp
  have sp : Same H (upd H p (.dK [])) := same_new hp
  refine d2 M L _ σ _ (I.same sp) fun H2 s2 => ⟨s2 _ _ upd_same, kvS kvs, ?_, by unfold kvS; rw [List.length_map]; exact h15, p, rfl, .inl ⟨_, .inl upd_same⟩, ?_⟩
  · unfold kvS
    rw [List.map_map]
    rfl
  · have s3 : Same H (upd H2 p (.dK (mergeK [] (kvS kvs)))) := fun a o q => by
      have hne : a ≠ p := fun z => by rw [z, hp] at q; cases q
      rw [upd_ne hne]
      exact s2 _ _ (sp _ _ q)
    refine e2 M L _ σ _ (I.same s3) fun v H3 s4 r3 => ?_
    cases r3
    have hm : mergeK [] (kvS kvs) = kvS kvs := mergeK_S kvs [] hn
    refine ⟨_, DGet.k (k := .inr y) (s4 _ _ upd_same), k _ H3 (s3.trans s4) ?_⟩
    rw [hm, valV_S]
    cases getS kvs y with
    | none => exact .non
    | some j => exact .int j
end
section
variable {X : Cx} {W : WX} {A : Nat → Addr} {rest : List Stmt} {E E' : List Sl} {P : Out → Prop} {e a b c : Expr} {es : List Expr} {xs : List PyData} {pos : Pos} {er : Er}
/-- try: body, except nc as nn: m = nn.part -/
theorem ds_tryPart {body : List Stmt} {nc nn m : Str} {cls : Value} {i j : Nat} {np p1 p2 pa pos2 pos' : Pos} {B : Out → Prop} (T : CxF X W) (N : LocN X i nn) (Nj : LocN X j m) (hs : X.stack = X.env :: X.outer) (hf : X.env.frame = some X.env.locals) (hln : X.env.kindOf nn = some .local) (hc : Names X nc cls) (hex : X.ex = [])
    (hij : i ≠ j) (hi : i < E.length) (hj : j < E.length) (hv : ∀ a oe pn pos, PE (X.suite a ((a, oe) :: pn)) (.Name nn pos) (tVar i)) (hsw : ∀ a oe pn, swapsWith (.Attribute (.Name nn p1) "part" pa) (some (.Name m p2)) pos2.line (X.suite a ((a, oe) :: pn)).env = pure false)
    (hba : ∀ a oe pn, attributeBase (.Name nn p1) "part" (X.suite a ((a, oe) :: pn)).env (eval (.Name nn p1) (X.suite a ((a, oe) :: pn)).env) = eval (.Name nn p1) (X.suite a ((a, oe) :: pn)).env)
    (hb : ∀ (W' : WX) (pn : List (Addr × Obj)) (xe : Value → Shared → Prop), CxF (X.tr pn xe) W' → DSs (X.tr pn xe) W' body E B)
    (hB : ∀ o, B o → match o with
      | .nx E1 => P (.nx E1)
      | .ex C fs E1 => ∃ er : Er, er.c = 9 ∧ PySem.W.findIn X.K (.ref (A er.c)) "part" = some none ∧ C = A er.c ∧ fs = flE er ∧ E1.length = E.length ∧ PySem.W.exmOne X.K (.ref C) cls = some true ∧ ExcK X.K C ∧ P (.nx ((E1.set j (.o (.d (.int er.n)))).set i .no))
      | _ => False) :
    DS X W (.Try body [.ExceptHandler (some (.Name nc np)) (some nn) [.Assign [.Name m p2] (.Attribute (.Name nn p1) "part" pa) pos2] pos'] [] [] pos) E P := by
  refine ⟨fun M L H σ D I k => ⟨_, ps_try_val (i := i) (tb := fun W' D σ H => ∀ pn xe, CxF (X.tr pn xe) W' → tAll (X.tr pn xe) body D σ H) (ts := fun a cls d D σ H => ∀ (oe : Obj) (pn : List (Addr × Obj)), Zc cls d oe → (∃ vs, oe.data = .fields vs) → tAll (X.suite a ((a, oe) :: pn)) [.Assign [.Name m p2] (.Attribute (.Name nn p1) "part" pa) pos2] D σ H)
    hs hf N.nd N.ix hln hc T.take hex (fun W' pn xe tk pass => ⟨fun pins s σ H D I h => ?_⟩) (fun a oe cls d pn hz hv => ⟨fun pins s σ H D I h => ?_⟩), ?_⟩⟩
  · obtain ⟨t, h1, h2⟩ := h pn xe ⟨T.calm, pass, tk⟩
    exact h1.run pins s σ H D I h2
  · obtain ⟨t, h1, h2⟩ := h oe pn hz hv
    exact h1.run pins s σ H D I h2
  · intro pn xe T'
    have key : ∀ {a : Addr} {C : Addr} {d : Option Addr} {E1 : List Sl} {L1 : List Addr} {H1 : Hp} {σ1 : L2.St} {er : Er}, er.c = 9 → PySem.W.findIn X.K (.ref (A er.c)) "part" = some none → C = A er.c → E1.length = E.length → ExcK X.K C → P (.nx ((E1.set j (.o (.d (.int er.n)))).set i .no)) → Step L H L1 H1 → EnvR X.K M L1 H1 σ1 E1 → FdR X.K (fz (L1 ++ M) H1) d (erD er) → H1 a = none →
        ∀ (oe : Obj) (pn : List (Addr × Obj)), Zc (.ref C) d oe → (∃ vs, oe.data = .fields vs) → tAll (X.suite a ((a, oe) :: pn)) [.Assign [.Name m p2] (.Attribute (.Name nn p1) "part" pa) pos2] { nx := fun σ' H' => H' a = none → D.nx (σ'.set i none) (upd H' a (ExZ C d a)), rt := fun _ _ => False, bk := fun _ _ => False, ct := fun _ _ => False } (σ1.set i (some (.ref a))) H1 := by
      intro a C d E1 L1 H1 σ1 er e9 hno eC hlen hk hP s J hfd na oe pn hz hvs
      subst eC
      refine ⟨_, pss_cons (ps_set (X := X.suite a ((a, oe) :: pn)) (x := m) (i := j) Nj.nd Nj.ix Nj.loc (pe_xf ⟨hk.e.hg, hk.e.hk, hk.e.hs, hk.e.hd⟩ hno hz hvs (hv a oe pn p1) (hba a oe pn)) (hsw a oe pn) Nj.fn) pss_nil, ?_⟩
      obtain ⟨⟨F0, hsl, _⟩, _⟩ := id J
      have hl : σ1.length = E1.length := hsl.length
      unfold erD at hfd
      rw [if_neg (by omega), if_pos e9] at hfd
      generalize hy : PyData.int er.n = yy at hfd
      cases hfd with
      | n => cases hy
      | w _ _ => cases hy
      | @p dd n hx =>
      cases hy
      refine ⟨.ref a, List.getElem?_set_self (by omega), rfl, rfl, dd, _, .int er.n, rfl, fz_sub _ _ hx, rfl, fun na' => ?_⟩
      have s1 : Same H1 (upd H1 a (ExZ (A er.c) (some dd) a)) := same_new na
      have nW : a ∉ L1 ++ M := fun z => J.dom a z na
      have J1 := (J.same s1).setD (i := j) (v := .int er.n) (x := .int er.n) (by omega) (.int _)
      have J2 := J1.setNo (i := i) (o := none)
      have e1 : ((σ1.set i (some (V.ref a))).set j (some (.int er.n))).set i none = (σ1.set j (some (.int er.n))).set i none := by
        rw [List.set_comm _ _ hij, List.set_set]
      rw [e1]
      exact k.nx _ L1 _ _ hP (s.trans (Step.same s1)) J2
    refine (hb _ pn xe T').run M L H σ _ I ⟨fun E' L' H' σ' q s J => k.nx E' L' H' σ' (hB _ q) s J, fun E' L' H' σ' q s J => (hB _ q).elim, fun E' L' H' σ' q s J => (hB _ q).elim, fun t v L' H' F q s d hF nF o => (hB _ q).elim, fun C E' L' H' σ' q s J => ?_, fun C fs E' L' H' σ' d gs F q s J hd hdL hdx nF hF fr => ?_, fun x v E' L' H' σ' q s J r => (hB _ q).elim, fun u v E' L' H' σ' q s J => (hB _ q).elim⟩
    · obtain ⟨er, e9, hno, eC, hfs, hlen, hx, hk, hP⟩ := hB _ q
      refine ⟨true, hx, fun _ => ⟨C, rfl, fun a na => key e9 hno eC hlen hk hP s J ?_ na⟩, fun z => by cases z⟩
      have h4 : er.c ≠ 4 := fun z => by unfold flE at hfs; rw [if_pos z] at hfs; cases hfs
      have h9 : er.c ≠ 9 := fun z => by unfold flE at hfs; rw [if_neg h4, if_pos z] at hfs; cases hfs
      rw [erD_n h4 h9]
      exact .n
    · obtain ⟨er, e9, hno, eC, hfs, hlen, hx, hk, hP⟩ := hB _ q
      have hdM : d ∉ M := fun z => I.dom d (List.mem_append_right _ z) hd
      have hdF : d ∉ F := fun z => (hF d z).2.2 rfl
      obtain ⟨rfl, hfd⟩ := fld_data (d := d) hfs.symm fr (by
        rw [fz_of (fun z => by
          rcases List.mem_append.mp z with z | z
          · exact hdF z
          · rcases List.mem_append.mp z with z | z
            · exact hdL z
            · exact hdM z)]
        exact hdx)
      exact ⟨true, hx, fun _ => ⟨C, rfl, fun a na => key e9 hno eC hlen hk hP s J hfd na⟩, fun z => by cases z⟩
end
/-! ### the names that printed texts use -/
/-- the part that a refusal tells -/
def exP {α : Type} : Except Er α → Option Int
  | .ok _ => none
  | .error e => some e.n
abbrev splitS (x y : Str) : List Str := Txt.split x y
def partS (x y : Str) : T3 Str Str Str := ⟨(Txt.partition x y).1, (Txt.partition x y).2.1, (Txt.partition x y).2.2⟩
abbrev joinS (x : Str) (ys : List Str) : Str := Txt.join x ys
def intS (x : Str) : Int := (PySem.intText? x).getD 0
def sgC (x : Str) : Nat := gx x.cps.toList 0
def sgAt (x : Str) (i : Int) : Str := ⟨#[gx x.cps.toList i]⟩
theorem one_sign {x : Str} (h : x.length = 1) : x = ⟨#[sgC x]⟩ := by
  have h1 : x.cps.toList.length = 1 := by rw [Array.length_toList]; exact h
  have h2 : x.cps.toList = [sgC x] := by
    unfold sgC
    generalize x.cps.toList = l at h1
    match l, h1 with
    | [c], _ => rfl
  cases x with
  | mk cps =>
    congr 1
    exact Array.toList_inj.mp h2
structure Row where
  h : Str
  a : Int
  b : Int
  fs : List (Int × Int)
instance : Inhabited Row := ⟨⟨Str.empty, 0, 0, []⟩⟩
def rowL (r : Row) : List PyData := .str r.h :: .int r.a :: .int r.b :: r.fs.map (eP PyData.int PyData.int)
def eRow (r : Row) : PyData := .list (rowL r)
section
variable {X : Cx} {E : List Sl} {a b o e : Expr} {pos apos : Pos} {x y z : Str} {i : Int} {r : Row} {ds : List PyData}
theorem de_partition3 (ho : DE X E o (.str x)) (he : DE X E e (.str y)) (hy : (y.length == 0) = false) (hx : x.length ≤ sizeLine) (hs : starEach [e] X.env = [(false, eval e X.env)] := by rfl) (hbase : attributeBase o "partition" X.env (eval o X.env) = eval o X.env := by rfl) (hline : (apos.endLine == pos.line) = true := by rfl) : DE X E (.Call (.Attribute o "partition" apos) [e] [] pos) (eT3 PyData.str PyData.str PyData.str (partS x y)) := de_partition ho he hy hx hs hbase hline
theorem de_ixSt (ha : DE X E a (.str x)) (hb : DE X E b (.int i)) (hl : x.length ≤ sizeLine) (hr : inR x.length i) (hs : PlainIx b := by exact fun _ _ => rfl) : DE X E (.Subscript a b pos) (.str (sgAt x i)) :=
  de_ixStr ha hb hl (at_gx (by rw [Array.length_toList]; exact hr)) hs
theorem eqv_none (d : PyData) : PyData.eqv d .none = isNon d := by cases d <;> rfl
theorem dt_niSt (ha : DE X E a (.str x)) (hb : DE X E b (.str z)) (h : x.length = 1) (hmk : behindInMarks .NotIn b = false := by rfl) : DT X E (.Compare a [.NotIn] [b] pos) (!decide (sgC x ∈ z.cps.toList)) := by
  rw [one_sign h] at ha
  exact dt_cmp op_notIn_sign ha hb (fun M L H σ v w Q I r1 r2 k => by cases r1; cases r2; exact ⟨_, z, rfl, rfl, k _ H (Same.refl H) (.bl _)⟩) hmk
theorem v_eq_str : decide (V.str x = V.str y) = decide (x = y) := by
  by_cases h : x = y
  · simp [h]
  · simp [h]
theorem de_eqS (ha : DE X E a (.str x)) (hb : DE X E b (.str y)) : DE X E (.Compare a [.Eq] [b] pos) (.bool (decide (x = y))) := de_cmp op_eq ha hb (fun M L H σ v w Q I r1 r2 k => by cases r1; cases r2; exact ⟨rfl, k _ H (Same.refl H) (by rw [v_eq_str]; exact .bl _)⟩) (nomark _)
theorem dt_eqS (ha : DE X E a (.str x)) (hb : DE X E b (.str y)) : DT X E (.Compare a [.Eq] [b] pos) (decide (x = y)) := dt_cmp op_eq ha hb (fun M L H σ v w Q I r1 r2 k => by cases r1; cases r2; exact ⟨rfl, k _ H (Same.refl H) (by rw [v_eq_str]; exact .bl _)⟩) (nomark _)
theorem dt_neSt (ha : DE X E a (.str x)) (hb : DE X E b (.str y)) : DT X E (.Compare a [.NotEq] [b] pos) (!decide (x = y)) := dt_cmp op_ne ha hb (fun M L H σ v w Q I r1 r2 k => by cases r1; cases r2; exact ⟨rfl, k _ H (Same.refl H) (by rw [v_eq_str]; exact .bl _)⟩) (nomark _)
theorem row_k {r : Row} {k : Nat} {d : PyData} (h : (rowL r)[k]? = some d) : atI (rowL r) (k : Int) = some d := by
  have hl := (List.getElem?_eq_some_iff.mp h).1
  have h1 : inR (rowL r).length (k : Int) := ⟨by omega, by omega⟩
  rw [at_gx h1]
  have e1 := gx_natI (xs := rowL r) (q := (k : Int)) (by omega) (by omega)
  rw [show ((k : Int)).toNat = k by omega, h] at e1
  exact e1.symm
theorem de_row0 (ha : DE X E a (eRow r)) (hb : DE X E b (.int 0)) (hs : PlainIx b := by exact fun _ _ => rfl) : DE X E (.Subscript a b pos) (.str r.h) := de_ix (xs := rowL r) ha hb (row_k (k := 0) rfl) hs
theorem de_row1 (ha : DE X E a (eRow r)) (hb : DE X E b (.int 1)) (hs : PlainIx b := by exact fun _ _ => rfl) : DE X E (.Subscript a b pos) (.int r.a) := de_ix (xs := rowL r) ha hb (row_k (k := 1) rfl) hs
theorem de_row2 (ha : DE X E a (eRow r)) (hb : DE X E b (.int 2)) (hs : PlainIx b := by exact fun _ _ => rfl) : DE X E (.Subscript a b pos) (.int r.b) := de_ix (xs := rowL r) ha hb (row_k (k := 2) rfl) hs
theorem dt_inNo (hu : X.A.units + 65 < cLine) (ha : DE X E a .none) (hb : DE X E b (eL eA ds)) (h : noDict (.list ds) = true ∧ SeqAt.shaped (.list ds) = true) (hmk : behindInMarks .In b = false := by rfl) : DT X E (.Compare a [.In] [b] pos) (ds.any isNon) := by
  have e1 : (eL eA ds : PyData) = .list ds := by show PyData.list (ds.map fun x => x) = _; rw [List.map_id']
  rw [e1] at hb
  have e2 : (ds.any fun z => PyData.eqv z .none) = ds.any isNon := by congr 1; funext z; exact eqv_none z
  rw [← e2]
  exact dt_cmp (op_inD hu) ha hb (fun M L H σ v w Q I r1 r2 k => ⟨.none, ds, R.dp _ _ rfl (R.same fz_sub _ _ r1), R.dp _ _ h.1 (R.same fz_sub _ _ r2), rfl, h.2, k _ H (Same.refl H) (.bl _)⟩) hmk
theorem row_at {r : Row} {k : Nat} (h : k < r.fs.length) : atI (rowL r) ((k : Int) + 3) = some (eP PyData.int PyData.int (gx r.fs (k : Int))) := by
  have hl : (rowL r).length = r.fs.length + 3 := by unfold rowL; simp
  have h1 : inR (rowL r).length ((k : Int) + 3) := ⟨by omega, by omega⟩
  rw [at_gx h1]
  congr 1
  have e1 := gx_natI (xs := rowL r) (q := (k : Int) + 3) (by omega) (by omega)
  have e2 := gx_natI (xs := r.fs) (q := (k : Int)) (by omega) (by omega)
  rw [show ((k : Int) + 3).toNat = k + 3 by omega] at e1
  rw [show ((k : Int)).toNat = k by omega] at e2
  have e3 : (rowL r)[k + 3]? = (r.fs.map (eP PyData.int PyData.int))[k]? := rfl
  rw [e3, List.getElem?_map, e2] at e1
  exact (Option.some.inj e1).symm
theorem de_lenRow {nm : Pos} (ha : DE X E a (eRow r)) (hg : Gl X "len") (hm : X.mg "len" = none) (hs : starEach [a] X.env = (false, eval a X.env) :: starEach [] X.env := by rfl) : DE X E (.Call (.Name "len" nm) [a] [] pos) (.int ((rowL r).length : Int)) := de_lenD (xs := rowL r) ha hg hm hs
theorem de_rowF3 (ha : DE X E a (eRow r)) (h : 0 < r.fs.length) {j} {p2 : Pos} : DE X E (.Subscript a (.Constant (.int 3) j p2) pos) (eP PyData.int PyData.int (gx r.fs 0)) := de_ix (xs := rowL r) ha de_int (row_at (k := 0) h) (fun _ _ => rfl)
theorem de_rowF4 (ha : DE X E a (eRow r)) (h : 1 < r.fs.length) {j} {p2 : Pos} : DE X E (.Subscript a (.Constant (.int 4) j p2) pos) (eP PyData.int PyData.int (gx r.fs 1)) := de_ix (xs := rowL r) ha de_int (row_at (k := 1) h) (fun _ _ => rfl)
end
end D

end

section
set_option Elab.async false
set_option linter.all false
set_option autoImplicit false
set_option maxRecDepth 100000
set_option maxHeartbeats 2000000
namespace D
open PySem L2 PySem.Spec PyProof.Rows
/-! ### plain facts on texts -/
theorem par_len {S : List Nat} (hS : S ≠ []) : ∀ (l acc : List Nat) (p q : List Nat), TL.par S acc l = some (p, q) → p.length ≤ acc.length + l.length ∧ q.length ≤ l.length
  | [], acc, p, q, h => by cases h
  | c :: r, acc, p, q, h => by
    cases hp : TL.pre S (c :: r) with
    | true =>
      rw [TL.par_hit hp] at h
      cases h
      exact ⟨by omega, by rw [List.length_drop]; omega⟩
    | false =>
      rw [TL.par_miss hp] at h
      obtain ⟨h1, h2⟩ := par_len hS r _ p q h
      rw [List.length_append] at h1
      simp only [List.length_cons, List.length_nil] at h1 ⊢
      omega
theorem part_len (x y : Str) (hy : TL.tl y ≠ []) : (partS x y).a.length ≤ x.length ∧ (partS x y).c.length ≤ x.length := by
  unfold partS
  rw [TL.partition_par x y hy]
  cases h : TL.par (TL.tl y) [] (TL.tl x) with
  | none => exact ⟨Nat.le_refl _, Nat.zero_le _⟩
  | some p =>
    obtain ⟨a, b⟩ := p
    obtain ⟨h1, h2⟩ := par_len hy _ _ _ _ h
    have e := TL.len_tl x
    refine ⟨?_, ?_⟩
    · show a.toArray.size ≤ x.length
      rw [List.size_toArray, e]
      simpa using h1
    · show b.toArray.size ≤ x.length
      rw [List.size_toArray, e]
      exact h2
theorem spl_len {S : List Nat} : ∀ (l : List Nat) (k : Nat) (acc : List Nat), (∀ p ∈ TL.spl S k acc l, p.length ≤ acc.length + l.length) ∧ 1 ≤ (TL.spl S k acc l).length
  | [], k, acc => by
    rw [TL.spl_nil]
    exact ⟨fun p hp => by rw [List.mem_singleton.mp hp]; omega, Nat.le_refl _⟩
  | c :: r, k + 1, acc => by
    show (∀ p ∈ TL.spl S k acc r, _) ∧ _
    obtain ⟨h1, h2⟩ := spl_len (S := S) r k acc
    exact ⟨fun p hp => by have := h1 p hp; simp only [List.length_cons]; omega, h2⟩
  | c :: r, 0, acc => by
    cases hp : TL.pre S (c :: r) with
    | true =>
      rw [TL.spl_hit hp]
      obtain ⟨h1, h2⟩ := spl_len (S := S) r (S.length - 1) []
      refine ⟨fun p hq => ?_, by rw [List.length_cons]; omega⟩
      rcases List.mem_cons.mp hq with z | z
      · rw [z]; omega
      · have := h1 p z
        simp only [List.length_cons, List.length_nil] at this ⊢
        omega
    | false =>
      rw [TL.spl_miss hp]
      obtain ⟨h1, h2⟩ := spl_len (S := S) r 0 (acc ++ [c])
      refine ⟨fun p hq => ?_, h2⟩
      have := h1 p hq
      rw [List.length_append] at this
      simp only [List.length_cons, List.length_nil] at this ⊢
      omega
theorem split_len (x y : Str) (hy : TL.tl y ≠ []) (hk : y.cps.all (· < 256) = true) : (∀ p ∈ splitS x y, p.length ≤ x.length) ∧ 1 ≤ (splitS x y).length ∧ (splitS x y).length ≤ x.length + 2 := by
  have e := TL.split_spl x y hy (TL.kind_ok hk)
  have h := spl_len (S := TL.tl y) (TL.tl x) 0 []
  rw [← e] at h
  refine ⟨fun p hp => ?_, by simpa using h.2, PyProof.Rows.split_le x y⟩
  have := h.1 (TL.tl p) (List.mem_map.mpr ⟨p, hp, rfl⟩)
  rw [TL.len_tl p, TL.len_tl x]
  simpa using this
/-- the ten figures -/
def figs : List Nat := ("0123456789" : Str).cps.toList
theorem figs_eq : figs = [48, 49, 50, 51, 52, 53, 54, 55, 56, 57] := by decide +kernel
theorem figs_in {c : Nat} : c ∈ figs ↔ 48 ≤ c ∧ c ≤ 57 := by
  rw [figs_eq]
  simp only [List.mem_cons, List.not_mem_nil, or_false]
  omega
theorem signs_mem {x s : Str} (h : s ∈ signs x) : s.length = 1 ∧ sgC s ∈ x.cps.toList := by
  unfold signs at h
  obtain ⟨c, hc, rfl⟩ := List.mem_map.mp h
  exact ⟨rfl, hc⟩
theorem int_figs {x : Str} (h : ∀ s ∈ signs x, sgC s ∈ figs) (h1 : 1 ≤ x.length) (h2 : x.length ≤ 18) : PySem.intText? x = some (intS x) := by
  have hd : NumText.AllDigits x.cps.toList := fun c hc => figs_in.mp (h ⟨#[c]⟩ (by unfold signs; exact List.mem_map.mpr ⟨c, hc, rfl⟩))
  have hn : x.cps.toList ≠ [] := fun z => by
    have : x.length = x.cps.toList.length := Array.length_toList.symm
    rw [z] at this
    simp only [List.length_nil] at this
    omega
  have e : PySem.intText? x = some ((NumText.digitsVal x.cps.toList : Nat) : Int) := PySem.intText_digits hd hn (by omega)
  unfold intS
  rw [e]
  rfl
/-- one figure -/
theorem int_fig1 {x : Str} (h1 : x.length = 1) (h : sgC x ∈ figs) : PySem.intText? x = some (intS x) := int_figs (fun s hs => by
  have e := one_sign h1
  have h2 := (signs_mem hs).2
  rw [e] at h2
  have : sgC s = sgC x := by simpa using h2
  rw [this]; exact h) (by omega) (by omega)
def optL (o1 o2 : Option Int) (fs : List (Option (Int × Int))) : List PyData := eO PyData.int o1 :: eO PyData.int o2 :: fs.map (eO (eP PyData.int PyData.int))
theorem optL_plain (o1 o2 : Option Int) (fs : List (Option (Int × Int))) : noDict (.list (optL o1 o2 fs)) = true ∧ SeqAt.shaped (.list (optL o1 o2 fs)) = true := by
  have hI := eqE_OI
  have hF := eqE_OP eqE_int eqE_int
  have key : noDicts (optL o1 o2 fs) = true ∧ PyData.canLayAll0 (optL o1 o2 fs) = true ∧ PyData.depthAll (optL o1 o2 fs) ≤ 2 := by
    have tail : ∀ fs : List (Option (Int × Int)), noDicts (fs.map (eO (eP PyData.int PyData.int))) = true ∧ PyData.canLayAll0 (fs.map (eO (eP PyData.int PyData.int))) = true ∧ PyData.depthAll (fs.map (eO (eP PyData.int PyData.int))) ≤ 2 := fun fs => by
      induction fs with
      | nil => exact ⟨rfl, rfl, Nat.zero_le _⟩
      | cons f fs ih =>
        obtain ⟨h1, h2, h3⟩ := ih
        have hd := hF.dep f
        refine ⟨?_, ?_, ?_⟩
        · show (noDict (eO (eP PyData.int PyData.int) f) && noDicts _) = true
          rw [hF.nd, h1]; rfl
        · show (PyData.canLay0 (eO (eP PyData.int PyData.int) f) && PyData.canLayAll0 _) = true
          rw [hF.lay, h2]; rfl
        · show max (PyData.depth (eO (eP PyData.int PyData.int) f)) (PyData.depthAll _) ≤ 2
          omega
    obtain ⟨h1, h2, h3⟩ := tail fs
    have d1 := hI.dep o1
    have d2 := hI.dep o2
    refine ⟨?_, ?_, ?_⟩
    · show (noDict (eO PyData.int o1) && (noDict (eO PyData.int o2) && noDicts _)) = true
      rw [hI.nd, hI.nd, h1]; rfl
    · show (PyData.canLay0 (eO PyData.int o1) && (PyData.canLay0 (eO PyData.int o2) && PyData.canLayAll0 _)) = true
      rw [hI.lay, hI.lay, h2]; rfl
    · show max (PyData.depth (eO PyData.int o1)) (max (PyData.depth (eO PyData.int o2)) (PyData.depthAll _)) ≤ 2
      omega
  refine ⟨key.1, ?_⟩
  unfold SeqAt.shaped
  have e1 : (PyData.list (optL o1 o2 fs)).canLay0 = true := key.2.1
  have e2 : (PyData.list (optL o1 o2 fs)).depth ≤ 64 := by
    show PyData.depthAll (optL o1 o2 fs) + 1 ≤ 64
    have := key.2.2
    omega
  rw [e1, decide_eq_true e2]; rfl
theorem isNon_Op {α : Type} {f : α → PyData} (hf : ∀ x, isNon (f x) = false) (o : Option α) : isNon (eO f o) = o.isNone := by
  cases o with
  | none => rfl
  | some x => exact hf x
theorem optL_any (o1 o2 : Option Int) (fs : List (Option (Int × Int))) : (optL o1 o2 fs).any isNon = (o1.isNone || (o2.isNone || fs.any (·.isNone))) := by
  unfold optL
  rw [List.any_cons, List.any_cons, List.any_map, isNon_Op (fun _ => rfl), isNon_Op (fun _ => rfl), show (isNon ∘ eO (eP PyData.int PyData.int)) = (fun o : Option (Int × Int) => o.isNone) from funext fun o => isNon_Op (fun _ => rfl) o]
/-- the row that is told -/
def asRow (w : Str) : List PyData → Row
  | .int a :: .int b :: fs => ⟨w, a, b, fs.map asFr⟩
  | _ => default
theorem optL_all {o1 o2 : Option Int} {fs : List (Option (Int × Int))} (h : (optL o1 o2 fs).any isNon = false) : ∃ (a b : Int) (gs : List (Int × Int)), o1 = some a ∧ o2 = some b ∧ fs = gs.map some ∧ optL o1 o2 fs = .int a :: .int b :: gs.map (eP PyData.int PyData.int) := by
  rw [optL_any, Bool.or_eq_false_iff, Bool.or_eq_false_iff, List.any_eq_false] at h
  obtain ⟨h1, h2, h3⟩ := h
  cases o1 with
  | none => cases h1
  | some a =>
    cases o2 with
    | none => cases h2
    | some b =>
      have hf : ∃ gs : List (Int × Int), fs = gs.map some := by
        induction fs with
        | nil => exact ⟨[], rfl⟩
        | cons f fs ih =>
          obtain ⟨gs, hg⟩ := ih fun x hx => h3 x (List.mem_cons_of_mem _ hx)
          cases f with
          | none => exact absurd rfl (h3 none List.mem_cons_self)
          | some g => exact ⟨g :: gs, by rw [hg]; rfl⟩
      obtain ⟨gs, rfl⟩ := hf
      refine ⟨a, b, gs, rfl, rfl, rfl, ?_⟩
      have e1 : (gs.map some).map (eO (eP PyData.int PyData.int)) = gs.map (eP PyData.int PyData.int) := by rw [List.map_map]; rfl
      unfold optL
      rw [e1]
theorem asRow_is (w : Str) (a b : Int) (gs : List (Int × Int)) : asRow w (.int a :: .int b :: gs.map (eP PyData.int PyData.int)) = ⟨w, a, b, gs⟩ := by
  have e3 : (gs.map (eP PyData.int PyData.int)).map asFr = gs := by rw [List.map_map]; exact List.map_id gs
  show (⟨w, a, b, (gs.map (eP PyData.int PyData.int)).map asFr⟩ : Row) = _
  rw [e3]
theorem row_eq {w : Str} {o1 o2 : Option Int} {fs : List (Option (Int × Int))} {ns : List PyData} (e : ns = optL o1 o2 fs) (h : ns.any isNon = false) : (eL eA (([PyData.str w] : List PyData) ++ ns) : PyData) = eRow (asRow w ns) := by
  rw [e] at h
  obtain ⟨a, b, gs, _, _, _, e2⟩ := optL_all h
  rw [e, e2, asRow_is]
  show PyData.list ((PyData.str w :: .int a :: .int b :: gs.map (eP PyData.int PyData.int)).map fun x => x) = PyData.list (PyData.str w :: .int a :: .int b :: gs.map (eP PyData.int PyData.int))
  rw [List.map_id']
theorem asRow_len {w : Str} {o1 o2 : Option Int} {fs : List (Option (Int × Int))} {ns : List PyData} (e : ns = optL o1 o2 fs) (h : ns.any isNon = false) : (asRow w ns).fs.length = fs.length := by
  rw [e] at h
  obtain ⟨a, b, gs, _, _, e1, e2⟩ := optL_all h
  rw [e, e2, asRow_is, e1, List.length_map]
theorem rowL_len (r : Row) : (rowL r).length = r.fs.length + 3 := by unfold rowL; simp
def AllS {α : Type} (P : α → Prop) (xs : List α) (i : Nat) : Prop := ∀ (j : Nat) (x : α), j < i → xs[j]? = some x → P x
theorem allS_0 {α : Type} {P : α → Prop} {xs : List α} : AllS P xs 0 := fun j x h => absurd h (Nat.not_lt_zero _)
theorem allS_step {α : Type} {P : α → Prop} {xs : List α} {i : Nat} {a : α} (h : AllS P xs (((i : Nat) : Int)).toNat) (ha : xs[i]? = some a) (hp : P a) : AllS P xs ((((i + 1 : Nat)) : Int)).toNat := fun j x hj hx => by
  by_cases c : j = i
  · subst c; rw [ha] at hx; cases hx; exact hp
  · exact h j x (by omega) hx
theorem allS_end {α : Type} {P : α → Prop} {xs : List α} (h : AllS P xs ((xs.length : Int)).toNat) : ∀ x ∈ xs, P x := fun x hx => by
  obtain ⟨j, hj⟩ := List.getElem?_of_mem hx
  exact h j x (by have := get_lt hj; omega) hj
theorem get_in (kvs : List (Str × Int)) (y : Str) : getS kvs y = none ∨ ∃ p ∈ kvs, getS kvs y = some p.2 := by
  unfold getS
  cases h : kvs.find? fun p => decide (p.1 = y) with
  | none => exact .inl rfl
  | some p => exact .inr ⟨p, List.mem_of_find?_eq_some h, rfl⟩
theorem get_45 {y : Str} {o : Option Int} (e : o = getS [("road", 5), ("lane", 5), ("wish", 4), ("bus", 4)] y) : o = none ∨ o = some 5 ∨ o = some 4 := by
  rw [e]
  rcases get_in [("road", 5), ("lane", 5), ("wish", 4), ("bus", 4)] y with h | ⟨p, hp, h⟩
  · exact .inl h
  · rw [h]
    simp only [List.mem_cons, List.not_mem_nil, or_false] at hp
    rcases hp with rfl | rfl | rfl | rfl
    · exact .inr (.inl rfl)
    · exact .inr (.inl rfl)
    · exact .inr (.inr rfl)
    · exact .inr (.inr rfl)
theorem cut_mem {α : Type} {xs : List α} {a b : Option Int} {x : α} (h : x ∈ cutG xs a b) : x ∈ xs := by
  unfold cutG at h
  exact List.mem_of_mem_drop (List.mem_of_mem_take h)
theorem optL_is {α : Type} (o1 o2 : Option Int) (xs : List α) (g : α → Option (Int × Int)) : ([eO PyData.int o1, eO PyData.int o2] : List PyData) ++ xs.map (fun a => eO (eP PyData.int PyData.int) (g a)) = optL o1 o2 (xs.map g) := by
  unfold optL
  rw [List.map_map]
  rfl
/-! ### how long texts are -/
def sml (i : Int) : Prop := 0 ≤ i ∧ i < 100000000000000000000
def FrS (f : Int × Int) : Prop := sml f.1 ∧ sml f.2
theorem sml_log {i : Int} (h : sml i) : i.natAbs.log2 < 1920 := by
  by_cases c : i.natAbs = 0
  · rw [c]; decide
  · have h1 := h.1
    have h2 := h.2
    have h3 : i.natAbs < 2 ^ 67 := by
      show i.natAbs < 147573952589676412928
      omega
    have h4 : i.natAbs.log2 < 67 := (Nat.log2_lt c).mpr h3
    omega
theorem sml_len {i : Int} (h : sml i) : (toString i : Str).length ≤ 20 := by
  obtain ⟨n, rfl⟩ := Int.eq_ofNat_of_zero_le h.1
  rw [TL.len_tl]
  show (TL.tl (Str.ofString (toString ((n : Nat) : Int)))).length ≤ 20
  rw [TL.tl_num]
  refine TL.numL_len (by decide) ?_
  have := h.2
  show n < 100000000000000000000
  omega
theorem joinTL_len (S : List Nat) : ∀ ps : List (List Nat), (TL.joinL S ps).length ≤ (ps.map (·.length)).sum + ps.length * S.length
  | [] => Nat.zero_le _
  | [p] => by show p.length ≤ _; simp
  | p :: q :: r => by
    have ih := joinTL_len S (q :: r)
    show (p ++ (S ++ TL.joinL S (q :: r))).length ≤ _
    rw [List.length_append, List.length_append]
    simp only [List.map_cons, List.sum_cons, List.length_cons] at ih ⊢
    rw [Nat.add_mul (r.length + 1) 1]
    omega
theorem map_len_tl (ys : List Str) : (ys.map TL.tl).map (·.length) = ys.map (·.length) := by
  rw [List.map_map]
  exact List.map_congr_left fun y _ => (TL.len_tl y).symm
theorem join_len (x : Str) (ys : List Str) : (joinS x ys).length ≤ (ys.map (·.length)).sum + ys.length * x.length := by
  show (Txt.join x ys).length ≤ _
  rw [TL.join_eq, TL.len_tl, TL.tl_join, TL.len_tl x]
  have h := joinTL_len (TL.tl x) (ys.map TL.tl)
  rw [map_len_tl, List.length_map] at h
  exact h
theorem sum_cap {k : Nat} : ∀ {ys : List Str}, (∀ y ∈ ys, y.length ≤ k) → (ys.map (·.length)).sum ≤ ys.length * k
  | [], _ => Nat.zero_le _
  | y :: ys, h => by
    have h1 := h y List.mem_cons_self
    have h2 := sum_cap fun z hz => h z (List.mem_cons_of_mem _ hz)
    rw [List.map_cons, List.sum_cons, List.length_cons, Nat.add_mul]
    omega
/-- parts of a text: not many, none long -/
def PtS (ps : List Str) (n : Int) : Prop := (∀ x ∈ ps, x.length ≤ 300) ∧ (ps.length : Int) ≤ n
theorem ptS_app {ps : List Str} {n : Int} {x : Str} (h : PtS ps n) (hx : x.length ≤ 300) : PtS (ps ++ [x]) (n + 1) :=
  ⟨fun y hy => by rcases List.mem_append.mp hy with z | z; exact h.1 y z; rw [List.mem_singleton.mp z]; exact hx, by rw [List.length_append]; have := h.2; simp only [List.length_cons, List.length_nil]; omega⟩
theorem ptS_1 {x : Str} (hx : x.length ≤ 300) : PtS [x] 1 := ⟨fun y hy => by rw [List.mem_singleton.mp hy]; exact hx, Int.le_refl _⟩
theorem ptS_join {ps : List Str} {n : Int} {x : Str} (h : PtS ps n) (hn : n ≤ 5000) (hx : x.length ≤ 2) : (ps.map (·.length)).sum + ps.length * x.length ≤ 16777216 := by
  have h1 := sum_cap h.1
  have h2 := h.2
  have h3 : ps.length * x.length ≤ ps.length * 2 := Nat.mul_le_mul_left _ hx
  omega
theorem ptS_len {ps : List Str} {n : Int} {x : Str} (h : PtS ps n) (hn : n ≤ 3000) (hx : x.length ≤ 2) : (joinS x ps).length ≤ 1000000 := by
  have h0 := join_len x ps
  have h1 := sum_cap h.1
  have h2 := h.2
  have h3 : ps.length * x.length ≤ ps.length * 2 := Nat.mul_le_mul_left _ hx
  omega
theorem sum5 {x a b c d e : Str} (ha : a.length ≤ 41) (hb : b.length ≤ 41) (hc : c.length ≤ 41) (hd : d.length ≤ 41) (he : e.length ≤ 41) (hx : x.length ≤ 2) : ([a, b, c, d, e].map (·.length)).sum + [a, b, c, d, e].length * x.length ≤ 300 := by
  simp only [List.map_cons, List.map_nil, List.sum_cons, List.sum_nil, List.length_cons, List.length_nil]
  omega
theorem sum4 {x a b c d : Str} (ha : a.length ≤ 41) (hb : b.length ≤ 41) (hc : c.length ≤ 41) (hd : d.length ≤ 41) (hx : x.length ≤ 2) : ([a, b, c, d].map (·.length)).sum + [a, b, c, d].length * x.length ≤ 300 := by
  simp only [List.map_cons, List.map_nil, List.sum_cons, List.sum_nil, List.length_cons, List.length_nil]
  omega
theorem head2 {a b : Str} (ha : a.length ≤ 41) (hb : b.length ≤ 41) (c : Bool) : (gx [a, b] (if c = true then (1 : Int) else 0)).length ≤ 41 := by
  cases c
  · exact ha
  · exact hb
structure RdS (r : T5 Int Int (Int × Int) (Int × Int) Bool) : Prop where
  a : sml r.a
  b : sml r.b
  c : FrS r.c
  d : FrS r.d
structure WsS (r : T4 Int Int (Int × Int) Bool) : Prop where
  a : sml r.a
  b : sml r.b
  c : FrS r.c
/-- a net and wishes whose text is not long -/
structure NtS (many : Int) (rs : List (T5 Int Int (Int × Int) (Int × Int) Bool)) (ws : List (T4 Int Int (Int × Int) Bool)) : Prop where
  n : sml many
  rl : rs.length ≤ 1000
  wl : ws.length ≤ 1000
  r : ∀ r ∈ rs, RdS r
  w : ∀ w ∈ ws, WsS w
end D

end

section
set_option Elab.async false
set_option linter.all false
set_option autoImplicit false
set_option maxRecDepth 100000
set_option maxHeartbeats 2000000
namespace D
open PySem L2 PySem.Spec PyProof.Rows
/-! ### own: ((x, list), list) -/
def oTN {α β γ : Type} (f : α → PyData) (g : β → PyData) (h : γ → PyData) (v : (α × List β) × List γ) : OT := .t [oPL f g v.1, oL h v.2]
theorem dat_TN {α β γ : Type} (f : α → PyData) (g : β → PyData) (h : γ → PyData) : Dat (oTN f g h) (eP (eP f (eL g)) (eL h)) := fun v => by
  show PyData.tuple [(oPL f g v.1).dat, (oL h v.2).dat] = _
  rw [dat_PL, dat_L]
section
variable {X : Cx} {W : WX} {E E' : List Sl} {e a b : Expr} {pos : Pos} {t u : OT} {P : Out → Prop} {rest : List Stmt}
/-- return (name, e): the name's own thing and a new own thing -/
theorem ds_retTNx {k : Nat} {x1} {lp : Pos} (ha : PE X a (tVar k)) (g : E[k]? = some (.o t)) (hb : DN X E b u) (h : P (.rt (.t [t, u]))) (hs1 : starEach [a, b] X.env = (false, eval a X.env) :: starEach [b] X.env := by rfl) (hs2 : starEach [b] X.env = (false, eval b X.env) :: starEach [] X.env := by rfl) :
    DSs X W (.Return (some (.Tuple [a, b] x1 lp)) pos :: rest) E P := by
  obtain ⟨tb, b1, b2⟩ := hb
  refine ⟨fun M L H σ D I k' => ⟨_, pss_cons (ps_ret (pe_tup (pa_cons ha (pa_cons b1 pa_nil hs2) hs1))) pss_all, ?_⟩⟩
  obtain ⟨v, G, g1, g2, g3, g4⟩ := I.get g
  refine ⟨v, g1, b2 M L H σ _ I fun w H1 F s1 nF hF o => ⟨by show 2 ≤ sizeLine; rw [sizeLine_eq]; decide, fun p hp => ?_⟩⟩
  have sp : Same H1 (upd H1 p (.tup [v, w])) := same_new hp
  have s := s1.trans sp
  have pn : p ∉ (F ++ L) ++ M := fun z => by
    rcases List.mem_append.mp z with z | z
    · rcases List.mem_append.mp z with z | z
      · obtain ⟨_, ws, q, _⟩ := Own.sub _ _ _ o p z
        rw [hp] at q; cases q
      · exact (I.same s1).dom p (List.mem_append_left _ z) hp
    · exact (I.same s1).dom p (List.mem_append_right _ z) hp
  have sz : Same (fz (L ++ M) H) (fz ((F ++ L) ++ M) (upd H1 p (.tup [v, w]))) := fz_mono fun a o n q => ⟨fun z => by
    rcases List.mem_append.mp z with z | z
    · rcases List.mem_append.mp z with z | z
      · rw [hF a z] at q; cases q
      · exact n (List.mem_append_left _ z)
    · exact n (List.mem_append_right _ z), s a o q⟩
  have o1 : Own X.K ((F ++ L) ++ M) (upd H1 p (.tup [v, w])) v t G := Own.mono sz _ _ _ (fun a ha => by
    obtain ⟨h1, ws, h2, _⟩ := Own.sub _ _ _ g2 a ha
    refine ⟨?_, eq_same s h2⟩
    rcases List.mem_append.mp h1 with z | z
    · exact List.mem_append_left _ (List.mem_append_right _ z)
    · exact List.mem_append_right _ z) g2
  have sz2 : Same (fz (F ++ (L ++ M)) H1) (fz ((F ++ L) ++ M) (upd H1 p (.tup [v, w]))) := fz_mono fun a o n q => ⟨fun z => by
    rcases List.mem_append.mp z with z | z
    · rcases List.mem_append.mp z with z | z
      · exact n (List.mem_append_left _ z)
      · exact n (List.mem_append_right _ (List.mem_append_left _ z))
    · exact n (List.mem_append_right _ (List.mem_append_right _ z)), sp a o q⟩
  have o2 : Own X.K ((F ++ L) ++ M) (upd H1 p (.tup [v, w])) w u F := Own.mono sz2 _ _ _ (fun a ha => by
    obtain ⟨_, ws, h2, _⟩ := Own.sub _ _ _ o a ha
    exact ⟨List.mem_append_left _ (List.mem_append_left _ ha), eq_same sp h2⟩) o
  refine k'.rt _ (.ref p) (F ++ L) _ (G ++ (F ++ [])) h ⟨fun a o n q => s a o q, fun a ha => ?_, fun a z => not_none_same s z⟩ (fun a ha => ?_) (fun a ha => ?_) (List.nodup_append.mpr ⟨g4, by simpa using nF, fun a ha c hc z => ?_⟩) (.t (by rw [fz_of pn]; exact upd_same) (.cons o1 (.cons o2 .nil)))
  · rcases List.mem_append.mp ha with z | z
    · exact .inr (hF a z)
    · exact .inl z
  · rcases List.mem_append.mp ha with z | z
    · rcases List.mem_append.mp z with z | z
      · obtain ⟨_, ws, q, _⟩ := Own.sub _ _ _ o a z
        rw [sp _ _ q]; exact fun z => by cases z
      · exact not_none_same s (I.dom a (List.mem_append_left _ z))
    · exact not_none_same s (I.dom a (List.mem_append_right _ z))
  · rcases List.mem_append.mp ha with z | z
    · exact List.mem_append_right _ (g3 a z)
    · exact List.mem_append_left _ (by simpa using z)
  · obtain ⟨_, ws, q, _⟩ := Own.sub _ _ _ g2 a ha
    rw [z, hF c (by simpa using hc)] at q
    cases q
variable {α β γ : Type} {f : α → PyData} {g : β → PyData} {h : γ → PyData} {v : (α × List β) × List γ} {y : PyData}
/-- x[0][1].clear() -/
theorem ds_clearTN {nx : Str} {np s1 s2 ap cp pos : Pos} (i : Nat) (hv : ∀ p, PE X (.Name nx p) (tVar i)) (ha : DE X E a (.int 0)) (hb : DE X E b (.int 1)) (hg : E[i]? = some (.o (oTN f g h v))) (hE : E.set i (.o (oTN f g h ((v.1.1, []), v.2))) = E')
    (xa : PlainIx a := by exact fun _ _ => rfl) (xb : PlainIx b := by exact fun _ _ => rfl)
    (hbase : attributeBase (.Subscript (.Subscript (.Name nx np) a s1) b s2) "clear" X.env (eval (.Subscript (.Subscript (.Name nx np) a s1) b s2) X.env) = eval (.Subscript (.Subscript (.Name nx np) a s1) b s2) X.env := by rfl) (hline : (ap.endLine == cp.line) = true := by rfl)
    (hsw : swapsWith (.Call (.Attribute (.Subscript (.Subscript (.Name nx np) a s1) b s2) "clear" ap) [] [] cp) none pos.line X.env = pure false := by rfl) :
    DS X W (.Expr (.Call (.Attribute (.Subscript (.Subscript (.Name nx np) a s1) b s2) "clear" ap) [] [] cp) pos) E (th (· = E') P) :=
  ds_clearP (p := [0, 1]) (dp_ixT (p := [0]) (dp_ixT (p := []) (dp_v i (hv _) hg) ha hg rfl rfl xa) hb hg rfl rfl xb) hg rfl hE hbase hline hsw
/-- x[1].append(y) -/
theorem ds_appendTN {nx : Str} {np s1 ap cp pos : Pos} (i : Nat) (hv : ∀ p, PE X (.Name nx p) (tVar i)) (he : DE X E e y) (ha : DE X E a (.int 1)) (hg : E[i]? = some (.o (oTN f g h v))) (hl : v.2.length < sizeLine) (hE : E.set i (.o (oTN f g eA (v.1, v.2.map h ++ [y]))) = E')
    (xa : PlainIx a := by exact fun _ _ => rfl)
    (hbase : attributeBase (.Subscript (.Name nx np) a s1) "append" X.env (eval (.Subscript (.Name nx np) a s1) X.env) = eval (.Subscript (.Name nx np) a s1) X.env := by rfl)
    (hfew : ((backTo cp (starEach [e] X.env)).all (fun x => !x.1) && (backToKw cp (keywordEach [] X.env)).all (fun x => x.1.isSome) && decide ([e].length + ([] : List Keyword).length + (if ([] : List Keyword).isEmpty then 0 else 1) < 30)) = true := by rfl)
    (hline : (ap.endLine == cp.line) = true := by rfl) (hst : starEach [e] X.env = (false, eval e X.env) :: starEach [] X.env := by rfl) (hplain : (backTo cp (starEach [] X.env)).any (·.1) = false := by rfl)
    (hsw : swapsWith (.Call (.Attribute (.Subscript (.Name nx np) a s1) "append" ap) [e] [] cp) none pos.line X.env = pure false := by rfl) :
    DS X W (.Expr (.Call (.Attribute (.Subscript (.Name nx np) a s1) "append" ap) [e] [] cp) pos) E (th (· = E') P) := by
  refine ds_appendP (p := [1]) (ts := (v.2.map h).map .d) (dp_ixT (p := []) (dp_v i (hv _) hg) ha hg rfl rfl xa) he.toN hg rfl (by rw [List.length_map, List.length_map]; exact hl) ?_ hbase hfew hline hst hplain hsw
  rw [← hE]
  congr 2
  show OT.t [oPL f g v.1, OT.l ((v.2.map h).map .d ++ [.d y])] = OT.t [oPL f g v.1, OT.l (((v.2.map h ++ [y]).map eA).map .d)]
  rw [List.map_append, List.map_append, show (v.2.map h).map eA = v.2.map h from List.map_id _]
  rfl
end
end D

end

section
set_option Elab.async false
set_option linter.all false
set_option autoImplicit false
set_option maxRecDepth 100000
set_option maxHeartbeats 2000000
namespace D
open PySem L2 PySem.Spec PyProof.Rows
/-! ### ways counted: a pile of lists of places -/
abbrev CSt := Int × List (List Int)
def stpC (e : Int) (seen : List Int) (s : CSt) (q : Int × Int) : CSt :=
  if q.1 = gx seen (-1) then (if q.2 = e then (s.1 + 1, s.2) else if q.2 ∈ seen then s else (s.1, s.2 ++ [seen ++ [q.2]])) else s
def cA (s : DSt) : CSt := ((s.1.length : Int), s.2.map (·.2))
theorem stpC_A (e : Int) (p : Pth) (s : DSt) (q : Itm) : stpC e p.2 (cA s) q.2 = cA (stp e p s q) := by
  unfold stpC stp
  by_cases c1 : q.2.1 = gx p.2 (-1)
  · rw [if_pos c1, if_pos c1]
    by_cases c2 : q.2.2 = e
    · rw [if_pos c2, if_pos c2]
      show ((s.1.length : Int) + 1, _) = (((s.1 ++ [p.1 ++ [q.1]]).length : Int), _)
      rw [List.length_append]
      rfl
    · rw [if_neg c2, if_neg c2]
      by_cases c3 : q.2.2 ∈ p.2
      · rw [if_pos c3, if_pos c3]
      · rw [if_neg c3, if_neg c3]
        show (_, s.2.map (·.2) ++ [p.2 ++ [q.2.2]]) = (_, (s.2 ++ [(p.1 ++ [q.1], p.2 ++ [q.2.2])]).map (·.2))
        rw [List.map_append]
        rfl
  · rw [if_neg c1, if_neg c1]
theorem foldC_A (e : Int) (p : Pth) : ∀ (us : List Itm) (s : DSt), (us.foldl (fun s q => stpC e p.2 s q.2) (cA s)) = cA (us.foldl (stp e p) s)
  | [], _ => rfl
  | q :: us, s => by
    show us.foldl _ (stpC e p.2 (cA s) q.2) = cA (us.foldl (stp e p) (stp e p s q))
    rw [stpC_A]
    exact foldC_A e p us _
def wC (l : List Int) : Nat := 14 ^ (6 - l.length)
def twC (s : CSt) : Nat := s.1.toNat + 14 * (s.2.map wC).sum
theorem twC_A (s : DSt) : twC (cA s) = tw s := by
  unfold twC tw bw cA
  show ((s.1.length : Int)).toNat + 14 * ((s.2.map (·.2)).map wC).sum = _
  rw [Int.toNat_natCast, List.map_map]
  rfl
def dfsTC (e : Int) (us : List Itm) (s : CSt) : Go CSt Empty := .nx (us.foldl (fun s' q => stpC e (s.2.getLastD default) s' q.2) (s.1, s.2.dropLast))
theorem lastC (s : DSt) : (cA s).2.getLastD default = (s.2.getLastD default).2 := by
  unfold cA
  show (s.2.map (·.2)).getLastD default = _
  rw [List.getLastD_eq_getLast?, List.getLastD_eq_getLast?, List.getLast?_map]
  cases s.2.getLast? <;> rfl
theorem turnC_A (e : Int) (us : List Itm) (s : DSt) : dfsTC e us (cA s) = .nx (cA (us.foldl (stp e (s.2.getLastD default)) (s.1, s.2.dropLast))) := by
  unfold dfsTC
  rw [lastC]
  congr 1
  rw [← foldC_A]
  congr 1
  show ((s.1.length : Int), (s.2.map (·.2)).dropLast) = ((s.1.length : Int), (s.2.dropLast).map (·.2))
  rw [List.map_dropLast]
def BgC (c : CSt) : Prop := ∃ s : DSt, BgI s ∧ cA s = c
theorem bgC_0 {s : Int} (h : 0 ≤ s ∧ s < 6) : BgC (0, [[s]]) := ⟨([], [([], [s])]), bgI_0 h, rfl⟩
def BiC (c0 : CSt) (seen : List Int) (i : Nat) (c : CSt) : Prop := ∃ (s0 : DSt) (p : Pth) (s : DSt), cA s0 = c0 ∧ p.2 = seen ∧ BiI s0 p i s ∧ cA s = c
theorem biC_0 {c : CSt} {seen : List Int} (h : BgC (c.1, c.2 ++ [seen])) : BiC c seen 0 c := by
  obtain ⟨s, h1, h2⟩ := h
  have e2 : s.2.map (·.2) = c.2 ++ [seen] := congrArg Prod.snd h2
  have e1 : (s.1.length : Int) = c.1 := congrArg Prod.fst h2
  obtain ⟨fs, ls, e3, e4, e5⟩ := List.map_eq_append_iff.mp e2
  obtain ⟨p, e6, e7⟩ : ∃ p, ls = [p] ∧ p.2 = seen := by
    match ls, e5 with
    | [p], e5 => exact ⟨p, rfl, by simpa using e5⟩
    | [], e5 => cases e5
    | p :: q :: r, e5 => exact absurd (congrArg List.length e5) (by simp)
  have e8 : cA (s.1, fs) = c := Prod.ext e1 e4
  refine ⟨(s.1, fs), p, (s.1, fs), e8, e7, biI_0 ?_, e8⟩
  show BgI (s.1, fs ++ [p])
  rw [← e6, ← e3]
  exact h1
theorem BiC.pos {c0 c : CSt} {seen : List Int} {i : Nat} (h : BiC c0 seen i c) : 1 ≤ seen.length := by
  obtain ⟨s0, p, s, _, e, h, _⟩ := h
  exact e ▸ h.pp.pos
theorem BiC.le {c0 c : CSt} {seen : List Int} {i : Nat} (h : BiC c0 seen i c) : seen.length ≤ 6 := by
  obtain ⟨s0, p, s, _, e, h, _⟩ := h
  exact e ▸ h.pp.le
theorem BiC.l1 {c0 c : CSt} {seen : List Int} {i : Nat} (h : BiC c0 seen i c) (hi : i ≤ 13) : c.2.length ≤ 7529536 := by
  obtain ⟨s0, p, s, _, _, h, e⟩ := h
  have := (h.l1 hi).2
  rw [← e]
  show (s.2.map (·.2)).length ≤ _
  rw [List.length_map]
  exact this
theorem BiC.step {c0 c : CSt} {seen : List Int} {i : Nat} {e : Int} {q : Int × Int} (hq : 0 ≤ q.2 ∧ q.2 < 6) (h : BiC c0 seen i c) : BiC c0 seen (i + 1) (stpC e seen c q) := by
  obtain ⟨s0, p, s, e0, e1, h, e2⟩ := h
  subst e1
  exact ⟨s0, p, stp e p s (0, q.1, q.2), e0, rfl, h.step (q := (0, q.1, q.2)) hq, by rw [← e2]; exact (stpC_A e p s (0, q.1, q.2)).symm⟩
theorem BiC.pass {c0 c : CSt} {seen : List Int} {i : Nat} (h : BiC c0 seen i c) : BiC c0 seen (i + 1) c := by
  obtain ⟨s0, p, s, e0, e1, h, e2⟩ := h
  exact ⟨s0, p, s, e0, e1, ⟨h.each, h.pp, h.tot, Nat.le_trans h.w (Nat.add_le_add_left (Nat.mul_le_mul_right _ (Nat.le_succ _)) _)⟩, e2⟩
theorem turnC {e : Int} {us : List Itm} {c : CSt} (hu : Us us) (h : BgC c) (hc : ¬ c.2 = []) : ∃ c', dfsTC e us c = .nx c' ∧ BgC c' ∧ twC c' < twC c := by
  obtain ⟨s, h1, rfl⟩ := h
  have hs : ¬ s.2 = [] := fun z => hc (by show s.2.map (·.2) = []; rw [z]; rfl)
  obtain ⟨s', k1, k2, k3⟩ := dfs_turn (e := e) hu h1 hs
  have k4 : s' = us.foldl (stp e (s.2.getLastD default)) (s.1, s.2.dropLast) := by
    unfold dfsT at k1
    exact (Go.nx.inj k1).symm
  refine ⟨cA s', by rw [turnC_A, k4], ⟨s', k2, rfl⟩, by rw [twC_A, twC_A]; exact k3⟩
def dfsCC (c : CSt) : Bool := !decide (c.2 = [])
theorem whileC {e : Int} {us : List Itm} : ∀ (n : Nat) (s : DSt), goN (whileG dfsCC (dfsTC e us) n (cA s)) (fun c => c.1) = goN (whileG dfsC (dfsT e us) n s) (fun s => (s.1.length : Int))
  | 0, s => rfl
  | n + 1, s => by
    have hcc : dfsCC (cA s) = dfsC s := by
      unfold dfsCC dfsC
      congr 1
      exact decide_eq_decide.mpr (show s.2.map (·.2) = [] ↔ s.2 = [] from List.map_eq_nil_iff)
    rw [whileG, whileG, hcc]
    cases dfsC s with
    | false => rfl
    | true =>
      rw [turnC_A]
      exact whileC n _
/-- the number of ways -/
def cnt (us : List Itm) (s e : Int) : Int := goN (whileG dfsCC (dfsTC e us) (twC (0, [[s]]) + 1) (0, [[s]])) (fun c => c.1)
theorem cnt_eq (us : List Itm) (s e : Int) : cnt us s e = ((dfs us s e).length : Int) := by
  unfold cnt dfs
  have h := whileC (e := e) (us := us) (twC (0, [[s]]) + 1) ([], [([], [s])])
  have e1 : cA ([], [([], [s])]) = (0, [[s]]) := rfl
  rw [e1] at h
  rw [h]
  have e2 : twC (0, [[s]]) = tw ([], [([], [s])]) := twC_A ([], [([], [s])])
  rw [e2]
  cases whileG dfsC (dfsT e us) (tw ([], [([], [s])]) + 1) ([], [([], [s])]) with
  | nx s' => show (s'.1.length : Int) = ((sortL s'.1).length : Int); rw [sortL_len]
  | bk s' => show (s'.1.length : Int) = ((sortL s'.1).length : Int); rw [sortL_len]
  | rt x => exact x.elim
theorem usb_foldC {α β : Type} [Inhabited α] [Inhabited β] (g : CSt → Int × Int → CSt) (rs : List (T5 Int Int α β Bool)) (lane : Bool) (s : CSt) : rs.foldl (fun s a => if (lane || !a.e) = true then g s (a.a, a.b) else s) s = (usb rs lane).foldl (fun s q => g s q.2) s := by
  have key : ∀ (es : List (Int × T5 Int Int α β Bool)) (s : CSt), (es.map (·.2)).foldl (fun s a => if (lane || !a.e) = true then g s (a.a, a.b) else s) s = ((es.filter (fun a => lane || !a.2.e)).map (fun a => (a.1, a.2.a, a.2.b))).foldl (fun s (q : Itm) => g s q.2) s := by
    intro es
    induction es with
    | nil => intro s; rfl
    | cons x es ih =>
      intro s
      rw [List.map_cons, List.foldl_cons, List.filter_cons]
      by_cases c : (lane || !x.2.e) = true
      · rw [if_pos c, if_pos c, List.map_cons, List.foldl_cons]
        exact ih _
      · rw [if_neg c, if_neg c]
        exact ih _
  have e1 : (enumL rs).map (·.2) = rs := by
    unfold enumL
    rw [List.map_snd_zip]
    rw [rng_len]
    exact Nat.le_refl _
  have h := key (enumL rs) s
  rw [e1] at h
  exact h
end D

end

section
set_option Elab.async false
set_option linter.all false
set_option maxRecDepth 100000
set_option maxHeartbeats 4000000
set_option simprocs false
namespace K61
open PySem L2 D
def top (i : Nat) : Stmt := PySem.Challenge.pw_crowdroads_k61_text_read.main.body.getD i (.Pass ⟨0, 0, 0, 0⟩)
def Cd (c : Nat) : Prop := c = 2 ∨ c = 3 ∨ c = 4 ∨ c = 5 ∨ c = 9
def mth (i j : Nat) : Stmt := match top i with | .ClassDef _ _ _ b _ _ _ _ _ _ _ => b.getD j (.Pass ⟨0, 0, 0, 0⟩) | s => s
abbrev s_NoText_init : Stmt := mth 6 0
abbrev s_NoWay_init : Stmt := mth 4 0
abbrev s_is_whole : Stmt := top 8
abbrev s_common_part : Stmt := top 9
abbrev s_is_fraction : Stmt := top 10
abbrev s_is_place : Stmt := top 14
abbrev s_two_places : Stmt := top 15
abbrev s_from_nought : Stmt := top 16
abbrev s_road_fits : Stmt := top 17
abbrev s_made_net : Stmt := top 18
abbrev s_usable_roads : Stmt := top 22
abbrev s_reached_from : Stmt := top 23
abbrev s_ways_between : Stmt := top 24
abbrev s_ask_way : Stmt := top 25
abbrev s_wish_fits : Stmt := top 26
abbrev s_ways_of : Stmt := top 27
abbrev s_made_wishes : Stmt := top 28
abbrev s_whole_read : Stmt := top 32
abbrev s_fraction_read : Stmt := top 33
abbrev s_figure_read : Stmt := top 34
abbrev s_row_read : Stmt := top 35
abbrev s_places_read : Stmt := top 36
abbrev s_read_net : Stmt := top 37
abbrev s_fraction_text : Stmt := top 38
abbrev s_net_text : Stmt := top 39
abbrev s_l_whole : Stmt := top 41
abbrev s_l_cell : Stmt := top 42
abbrev s_l_mixed : Stmt := top 43
abbrev s_l_divisor : Stmt := top 44
abbrev s_l_fraction : Stmt := top 45
abbrev s_l_listed : Stmt := top 46
abbrev s_l_many : Stmt := top 47
abbrev s_l_wishes : Stmt := top 48
abbrev s_l_road : Stmt := top 49
abbrev s_l_begun : Stmt := top 50
abbrev s_l_roads : Stmt := top 51
abbrev s_l_number : Stmt := top 52
abbrev s_l_words : Stmt := top 53
abbrev s_l_alike : Stmt := top 54
abbrev s_l_shown : Stmt := top 55
abbrev s_l_longer : Stmt := top 56
abbrev s_law : Stmt := top 57
structure Txt (K : PySem.W.Frag) (mg : Str → Option Value) (A : Nat → Addr) : Prop where
  b_abs : mg "abs" = none
  b_bool : mg "bool" = none
  b_enumerate : mg "enumerate" = none
  b_int : mg "int" = none
  b_isinstance : mg "isinstance" = none
  b_len : mg "len" = none
  b_list : mg "list" = none
  b_range : mg "range" = none
  b_sorted : mg "sorted" = none
  b_str : mg "str" = none
  b_sum : mg "sum" = none
  b_tuple : mg "tuple" = none
  c_FIGURES : ConstD K mg "FIGURES" (.str "0123456789")
  c_LONGEST : ConstD K mg "LONGEST" (.int 18)
  c_MOST_PLACES : ConstD K mg "MOST_PLACES" (.int 6)
  c_MOST_ROADS : ConstD K mg "MOST_ROADS" (.int 12)
  c_MOST_WAYS : ConstD K mg "MOST_WAYS" (.int 10)
  c_MOST_WISHES : ConstD K mg "MOST_WISHES" (.int 3)
  x_NoNet : OwnExc K mg "NoNet" (A 2)
  x_NoWish : OwnExc K mg "NoWish" (A 3)
  x_TooMany : OwnExc K mg "TooMany" (A 5)
  xm : ∀ c, Cd c → PySem.W.exmOne K (.ref (A c)) (.ref (A 10)) = some true
  ek : ∀ c, Cd c → ExcK K (A c)
  kv : ∀ c, Cd c → PySem.W.kitOne K (.ref (A c)) (.type "ValueError") = some true
  g_RoadError : mg "RoadError" = some (.ref (A 10))
  no_wish : PySem.W.findIn K (.ref (A 4)) "wish" = some none
  no_reached : PySem.W.findIn K (.ref (A 4)) "reached" = some none
  no_part : PySem.W.findIn K (.ref (A 9)) "part" = some none
  xm_part : PySem.W.exmOne K (.ref (A 9)) (.ref (A 9)) = some true
  g_NoText : mg "NoText" = some (.ref (A 9))
section
variable {A : Nat → Addr} {P : Program} {w : World} {K : PySem.W.Frag} {mg : Str → Option Value} {base : Heap}
theorem ok_NoWay_init {fI R C : Addr} {fd : FuncData} (F : Fun K "__init__" "NoWay.__init__" s_NoWay_init fI fd) (hR : mg "RoadError" = some (.ref R)) (FR : RinC K R) (h0 : PySem.W.findIn K (.ref C) "wish" = some none) (h1 : PySem.W.findIn K (.ref C) "reached" = some none) : FnOk P w K mg base (L2.CX P w) 1 fI fd ["self", "wish", "reached"] (spNW K C) := by
  refine F.okX (N := ["self", "wish", "reached"]) ⟨rfl, rfl, rfl, by decide +kernel, rfl, by decide +kernel, by decide +kernel⟩ (fun vs H Q E h => by obtain ⟨a, v0, v1, rfl, _⟩ := h; rfl) (fun cdv AA outer ss HH vs Q EE hr h => ?_)
  obtain ⟨a, v0, v1, rfl, O, ha, q⟩ := h
  refine ⟨_, pss_cons (ps_expr (pe_rinit FR rfl hR (pa_cons (pv 0) (pa_cons pe_str pa_nil)))) (pss_cons (ps_ost (pv 0) (pv 1)) (pss_cons (ps_ost (pv 0) (pv 2)) pss_nil)), ?_⟩
  refine ⟨.ref a, rfl, a, C, [_], rfl, by decide, O, ha, ?_⟩
  refine ⟨v0, rfl, .ref a, rfl, a, C, rfl, O, h0, .inl ⟨ha, fun dx nd ne => ?_⟩⟩
  exact ⟨v1, rfl, .ref a, rfl, a, C, rfl, O, h1, .inr ⟨dx, [("wish", v0)], upd_same, by rw [upd_ne ne, upd_same], (by show 1 ≤ 900; decide), q dx nd ne⟩⟩
theorem ok_NoText_init {fI R C : Addr} {fd : FuncData} (F : Fun K "__init__" "NoText.__init__" s_NoText_init fI fd) (hR : mg "RoadError" = some (.ref R)) (FR : RinC K R) (h0 : PySem.W.findIn K (.ref C) "part" = some none) : FnOk P w K mg base (L2.CX P w) 1 fI fd ["self", "part"] (spNT K C) := by
  refine F.okX (N := ["self", "part"]) ⟨rfl, rfl, rfl, by decide +kernel, rfl, by decide +kernel, by decide +kernel⟩ (fun vs H Q E h => by obtain ⟨a, v0, rfl, _⟩ := h; rfl) (fun cdv AA outer ss HH vs Q EE hr h => ?_)
  obtain ⟨a, v0, rfl, O, ha, q⟩ := h
  refine ⟨_, pss_cons (ps_expr (pe_rinit FR rfl hR (pa_cons (pv 0) (pa_cons pe_str pa_nil)))) (pss_cons (ps_ost (pv 0) (pv 1)) pss_nil), ?_⟩
  refine ⟨.ref a, rfl, a, C, [_], rfl, by decide, O, ha, ?_⟩
  refine ⟨v0, rfl, .ref a, rfl, a, C, rfl, O, h0, .inl ⟨ha, fun dx nd ne => ?_⟩⟩
  exact q dx nd ne
def m_is_whole (thing : PySem.PyData) : Bool := ((isInt thing) && (!(isBool thing)))
def r_is_whole (xs : List PyData) (r : Res) : Prop := ∃ (thing : PySem.PyData), xs = [thing] ∧ r = .v (.bool (m_is_whole thing))
abbrev N_is_whole : List Str := ["thing"]
theorem sc_is_whole : FnScope N_is_whole ["thing"] (defScope s_is_whole) := ⟨rfl, rfl, rfl, by decide +kernel, rfl, by decide +kernel, by decide +kernel⟩
theorem ok_is_whole (F : Def K mg "is_whole" s_is_whole ["thing"]) (T : Txt K mg A)  : Cal P w K mg base "is_whole" 1 r_is_whole 1 := by
  refine cal_ok F sc_is_whole rfl fun fa cdv AA outer ss HH EE X hX C hr xs r hl hR => ?_
  obtain ⟨thing, rfl, rfl⟩ := hR
  subst hX
  show DSs _ _ _ [.v thing] _
  exact ds_retD (de_and (de_isi (kit_int thing) (de_v 0 (pv 0)) rfl T.b_isinstance rfl T.b_int) (fun _ => (de_one (de_not (de_isi (kit_bool thing) (de_v 0 (pv 0)) rfl T.b_isinstance rfl T.b_bool))))) (.inl (by simp only [m_is_whole, cond_true, cond_false, Bool.not_true, Bool.not_false, goM, goN]; try rfl))
theorem whole_of {x : PyData} (h : m_is_whole x = true) : isWhole x = true := whole_mk h
def l_common_part_1  (s_1 : Int × Int) : Go (Int × Int) Empty := (let other_2 := (s_1.1 % s_1.2); (.nx (s_1.2, other_2)))
def l_common_part_1_c  (s_1 : Int × Int) : Bool := (!decide (s_1.2 = (0 : Int)))
def m_common_part (one : Int) (other : Int) : Int := (let one_1 := (one.natAbs : Int); (let other_1 := (other.natAbs : Int); (goN (whileG l_common_part_1_c l_common_part_1 ((fun (s_1 : Int × Int) => s_1.2.toNat) (one_1, other_1) + 1) (one_1, other_1)) (fun s_2 => s_2.1))))
def r_common_part (xs : List PyData) (r : Res) : Prop := ∃ (one : Int) (other : Int), xs = [(.int one), (.int other)] ∧ r = .v (.int (m_common_part one other))
abbrev N_common_part : List Str := ["one", "other"]
theorem sc_common_part : FnScope N_common_part ["one", "other"] (defScope s_common_part) := ⟨rfl, rfl, rfl, by decide +kernel, rfl, by decide +kernel, by decide +kernel⟩
theorem ok_common_part (F : Def K mg "common_part" s_common_part ["one", "other"]) (T : Txt K mg A)  : Cal P w K mg base "common_part" 2 r_common_part 1 := by
  refine cal_ok F sc_common_part rfl fun fa cdv AA outer ss HH EE X hX C hr xs r hl hR => ?_
  obtain ⟨one, other, rfl, rfl⟩ := hR
  subst hX
  show DSs _ _ _ [.v (.int one), .v (.int other)] _
  obtain ⟨one_1, e_one_1⟩ : ∃ z : Int, z = (one.natAbs : Int) := ⟨_, rfl⟩
  refine ds_then (E' := [.v (.int one_1), .v (.int other)]) (ds_set (x := (.int one_1)) (ln 0 sc_common_part.nd) (deC (by subst e_one_1; rfl) (de_abs (de_v 0 (pv 0)) rfl T.b_abs))) ?_
  obtain ⟨other_1, e_other_1⟩ : ∃ z : Int, z = (other.natAbs : Int) := ⟨_, rfl⟩
  refine ds_then (E' := [.v (.int one_1), .v (.int other_1)]) (ds_set (x := (.int other_1)) (ln 1 sc_common_part.nd) (deC (by subst e_other_1; rfl) (de_abs (de_v 1 (pv 1)) rfl T.b_abs))) ?_
  refine ds_whileG (fun (s_1 : Int × Int) => [.v (.int s_1.1), .v (.int s_1.2)]) l_common_part_1_c l_common_part_1 (fun (s_1 : Int × Int) => s_1.2.toNat) (one_1, other_1) (fun (s_1 : Int × Int) => 0 ≤ s_1.1 ∧ 0 ≤ s_1.2) (fun (s_1 : Int × Int) => 0 ≤ s_1.1 ∧ 0 ≤ s_1.2) (fun (_ : Empty) _ => False) C (by repeat (first | exact Le.nil | refine Le.same ?_ | refine Le.drop ?_)) (by first | trivial | omega) ?_ ?_ (fun _ h _ => h) ?_ ?_
  · intro s_1 hi_1
    exact (dt_neI (de_v 1 (pv 1)) de_int)
  · intro s_1 hi_1 c_1
    have q_c_1 : (!decide (s_1.2 = (0 : Int))) = true := c_1
    try simp only [eqD_t, eqD_f, decide_eq_true_eq, decide_eq_false_iff_not, Bool.not_eq_true', Bool.not_eq_false', Bool.and_eq_true, Bool.or_eq_true, Bool.and_eq_false_iff, Bool.or_eq_false_iff, Bool.not_true, Bool.not_false, Bool.not_not, Decidable.not_not] at q_c_1
    have t1 := Int.emod_nonneg s_1.1 (show s_1.2 ≠ 0 by omega)
    have t2 := Int.emod_lt_of_pos s_1.1 (show 0 < s_1.2 by omega)
    obtain ⟨other_2, e_other_2⟩ : ∃ z : Int, z = (s_1.1 % s_1.2) := ⟨_, rfl⟩
    refine ds_then (E' := [.v (.int s_1.2), .v (.int other_2)]) (ds_par (x := (.int s_1.2)) (y := (.int other_2)) rfl (ln 0 sc_common_part.nd) (ln 1 sc_common_part.nd) (by decide) (de_v 1 (pv 1)) (deC (by subst e_other_2; rfl) (de_mod (de_v 0 (pv 0)) (de_v 1 (pv 1)) (by first | omega | assumption | decide))) rfl rfl (by rfl)) ?_
    exact ds_nil ⟨(s_1.2, other_2), (by subst e_one_1 e_other_1 e_other_2; simp only [l_common_part_1, cond_true, cond_false, Bool.not_true, Bool.not_false, goM, goN]; try rfl), (by repeat (first | exact Le.nil | refine Le.same ?_ | refine Le.drop ?_)), ⟨by first | trivial | omega, by omega⟩⟩
  · intro r o f_1 ho hr_
    exact r.elim
  intro s_2 f_1 hi_1
  exact ds_retD (de_v 0 (pv 0)) (.inl (by subst e_one_1 e_other_1; first | (simp only [m_common_part, f_1, cond_true, cond_false, Bool.not_true, Bool.not_false, goM, goN]; first | done | rfl) | (simp only [m_common_part]; rw [f_1]; first | done | rfl) | (simp only [m_common_part]; (try dsimp only at f_1); (try simp only [f_1, cond_true, cond_false, Bool.not_true, Bool.not_false, goM, goN]); first | done | rfl)))
theorem m_common_part_eq (a b : Int) : m_common_part a b = (Int.gcd a b : Int) := by
  obtain ⟨g, e, h1, h2, h3⟩ := whileG_gcd (c := l_common_part_1_c) (f := l_common_part_1) (fun _ => rfl) (fun _ => rfl) ((b.natAbs : Int).toNat + 1) (a.natAbs : Int) (b.natAbs : Int) (by omega) (by omega)
  show goN (whileG l_common_part_1_c l_common_part_1 ((b.natAbs : Int).toNat + 1) ((a.natAbs : Int), (b.natAbs : Int))) (fun s => s.1) = _
  rw [e]
  show g = _
  have h4 := h2 (by omega)
  rw [← (show Int.gcd (a.natAbs : Int) (b.natAbs : Int) = Int.gcd a b by simp [Int.gcd])]
  all_goals omega
def m_is_fraction (thing : PySem.PyData) : Bool := (bif ((!(isTuple thing)) || (!decide ((pyLen thing) = (2 : Int)))) then false else (bif ((!(m_is_whole (gx (elems thing) (0 : Int)))) || ((!(m_is_whole (gx (elems thing) (1 : Int)))) || (decide ((asI (gx (elems thing) (1 : Int))) < (1 : Int))))) then false else (decide ((m_common_part (asI (gx (elems thing) (0 : Int))) (asI (gx (elems thing) (1 : Int)))) = (1 : Int)))))
def r_is_fraction (xs : List PyData) (r : Res) : Prop := ∃ (thing : PySem.PyData), xs = [thing] ∧ r = .v (.bool (m_is_fraction thing))
abbrev N_is_fraction : List Str := ["thing"]
theorem sc_is_fraction : FnScope N_is_fraction ["thing"] (defScope s_is_fraction) := ⟨rfl, rfl, rfl, by decide +kernel, rfl, by decide +kernel, by decide +kernel⟩
theorem ok_is_fraction (F : Def K mg "is_fraction" s_is_fraction ["thing"]) (T : Txt K mg A) (c_is_whole : Cal P w K mg base "is_whole" 1 r_is_whole 1) (c_common_part : Cal P w K mg base "common_part" 2 r_common_part 1) : Cal P w K mg base "is_fraction" 1 r_is_fraction 2 := by
  refine cal_ok F sc_is_fraction rfl fun fa cdv AA outer ss HH EE X hX C hr xs r hl hR => ?_
  obtain ⟨thing, rfl, rfl⟩ := hR
  subst hX
  show DSs _ _ _ [.v thing] _
  refine ds_ifr (DW.toT (dw_or (dt_not (dt_val (de_isi (kit_tuple thing) (de_v 0 (pv 0)) rfl T.b_isinstance rfl T.b_tuple))) (fun h_1 => by have q := h_1; (try simp only [eqD_t, eqD_f, decide_eq_true_eq, decide_eq_false_iff_not, Bool.not_eq_true', Bool.not_eq_false', Bool.and_eq_true, Bool.or_eq_true, Bool.and_eq_false_iff, Bool.or_eq_false_iff, Bool.not_true, Bool.not_false, Bool.not_not, Decidable.not_not] at q); exact (dw_or1 (dt_neI (de_lenA (de_v 0 (pv 0)) (by first | exact .inl (by first | assumption | grind) | exact .inr (by first | assumption | grind)) rfl T.b_len) de_int))))) (fun c_1 => ?_) (fun c_1 => ?_)
  · have q_c_1 := c_1
    try simp only [eqD_t, eqD_f, decide_eq_true_eq, decide_eq_false_iff_not, Bool.not_eq_true', Bool.not_eq_false', Bool.and_eq_true, Bool.or_eq_true, Bool.and_eq_false_iff, Bool.or_eq_false_iff, Bool.not_true, Bool.not_false, Bool.not_not, Decidable.not_not] at q_c_1
    exact ds_retD de_bl (.inl (by first | (simp only [m_is_fraction, c_1, cond_true, cond_false, Bool.not_true, Bool.not_false, goM, goN]; first | done | rfl) | (simp only [m_is_fraction]; rw [c_1]; first | done | rfl) | (simp only [m_is_fraction]; (try dsimp only at c_1); (try simp only [c_1, cond_true, cond_false, Bool.not_true, Bool.not_false, goM, goN]); first | done | rfl)))
  have q_c_1 := c_1
  try simp only [eqD_t, eqD_f, decide_eq_true_eq, decide_eq_false_iff_not, Bool.not_eq_true', Bool.not_eq_false', Bool.and_eq_true, Bool.or_eq_true, Bool.and_eq_false_iff, Bool.or_eq_false_iff, Bool.not_true, Bool.not_false, Bool.not_not, Decidable.not_not] at q_c_1
  refine ds_ifr (DW.toT (dw_or (dt_not (dt_val (de_call (f := "is_whole") (c_is_whole.at hr) rfl (da_cons (de_ixA (de_v 0 (pv 0)) de_int (by first | exact .inl (by first | assumption | grind) | exact .inr (by first | assumption | grind)) (by exact inR_py (by decide) (by omega))) da_nil) ⟨(gx (elems thing) (0 : Int)), rfl, rfl⟩))) (fun h_3 => by have q := h_3; (try simp only [eqD_t, eqD_f, decide_eq_true_eq, decide_eq_false_iff_not, Bool.not_eq_true', Bool.not_eq_false', Bool.and_eq_true, Bool.or_eq_true, Bool.and_eq_false_iff, Bool.or_eq_false_iff, Bool.not_true, Bool.not_false, Bool.not_not, Decidable.not_not] at q); exact (dw_or (dt_not (dt_val (de_call (f := "is_whole") (c_is_whole.at hr) rfl (da_cons (de_ixA (de_v 0 (pv 0)) de_int (by first | exact .inl (by first | assumption | grind) | exact .inr (by first | assumption | grind)) (by exact inR_py (by decide) (by omega))) da_nil) ⟨(gx (elems thing) (1 : Int)), rfl, rfl⟩))) (fun h_2 => by have q := h_2; (try simp only [eqD_t, eqD_f, decide_eq_true_eq, decide_eq_false_iff_not, Bool.not_eq_true', Bool.not_eq_false', Bool.and_eq_true, Bool.or_eq_true, Bool.and_eq_false_iff, Bool.or_eq_false_iff, Bool.not_true, Bool.not_false, Bool.not_not, Decidable.not_not] at q); exact (dw_or1 (dt_lt (de_asI (de_ixA (de_v 0 (pv 0)) de_int (by first | exact .inl (by first | assumption | grind) | exact .inr (by first | assumption | grind)) (by exact inR_py (by decide) (by omega))) (by first | assumption | exact whole_of (by first | assumption | grind))) de_int))))))) (fun c_2 => ?_) (fun c_2 => ?_)
  · have q_c_2 := c_2
    try simp only [eqD_t, eqD_f, decide_eq_true_eq, decide_eq_false_iff_not, Bool.not_eq_true', Bool.not_eq_false', Bool.and_eq_true, Bool.or_eq_true, Bool.and_eq_false_iff, Bool.or_eq_false_iff, Bool.not_true, Bool.not_false, Bool.not_not, Decidable.not_not] at q_c_2
    exact ds_retD de_bl (.inl (by first | (simp only [m_is_fraction, c_1, c_2, cond_true, cond_false, Bool.not_true, Bool.not_false, goM, goN]; first | done | rfl) | (simp only [m_is_fraction]; rw [c_1, c_2]; first | done | rfl) | (simp only [m_is_fraction]; (try dsimp only at c_1); (try dsimp only at c_2); (try simp only [c_1, cond_true, cond_false, Bool.not_true, Bool.not_false, goM, goN]); (try simp only [c_2, cond_true, cond_false, Bool.not_true, Bool.not_false, goM, goN]); first | done | rfl)))
  have q_c_2 := c_2
  try simp only [eqD_t, eqD_f, decide_eq_true_eq, decide_eq_false_iff_not, Bool.not_eq_true', Bool.not_eq_false', Bool.and_eq_true, Bool.or_eq_true, Bool.and_eq_false_iff, Bool.or_eq_false_iff, Bool.not_true, Bool.not_false, Bool.not_not, Decidable.not_not] at q_c_2
  exact ds_retD (de_eqI (de_call (f := "common_part") (c_common_part.at hr) rfl (da_cons (de_asI (de_ixA (de_v 0 (pv 0)) de_int (by first | exact .inl (by first | assumption | grind) | exact .inr (by first | assumption | grind)) (by exact inR_py (by decide) (by omega))) (by first | assumption | exact whole_of (by first | assumption | grind))) (da_cons (de_asI (de_ixA (de_v 0 (pv 0)) de_int (by first | exact .inl (by first | assumption | grind) | exact .inr (by first | assumption | grind)) (by exact inR_py (by decide) (by omega))) (by first | assumption | exact whole_of (by first | assumption | grind))) da_nil)) ⟨(asI (gx (elems thing) (0 : Int))), (asI (gx (elems thing) (1 : Int))), rfl, rfl⟩) de_int) (.inl (by first | (simp only [m_is_fraction, c_1, c_2, cond_true, cond_false, Bool.not_true, Bool.not_false, goM, goN]; first | done | rfl) | (simp only [m_is_fraction]; rw [c_1, c_2]; first | done | rfl) | (simp only [m_is_fraction]; (try dsimp only at c_1); (try dsimp only at c_2); (try simp only [c_1, cond_true, cond_false, Bool.not_true, Bool.not_false, goM, goN]); (try simp only [c_2, cond_true, cond_false, Bool.not_true, Bool.not_false, goM, goN]); first | done | rfl)))
def m_is_place (thing : PySem.PyData) (many : Int) : Bool := ((m_is_whole thing) && (decide ((0 : Int) ≤ (asI thing)) && decide ((asI thing) < many)))
def r_is_place (xs : List PyData) (r : Res) : Prop := ∃ (thing : PySem.PyData) (many : Int), xs = [thing, (.int many)] ∧ r = .v (.bool (m_is_place thing many))
abbrev N_is_place : List Str := ["thing", "many"]
theorem sc_is_place : FnScope N_is_place ["thing", "many"] (defScope s_is_place) := ⟨rfl, rfl, rfl, by decide +kernel, rfl, by decide +kernel, by decide +kernel⟩
theorem ok_is_place (F : Def K mg "is_place" s_is_place ["thing", "many"]) (T : Txt K mg A) (c_is_whole : Cal P w K mg base "is_whole" 1 r_is_whole 1) : Cal P w K mg base "is_place" 2 r_is_place 2 := by
  refine cal_ok F sc_is_place rfl fun fa cdv AA outer ss HH EE X hX C hr xs r hl hR => ?_
  obtain ⟨thing, many, rfl, rfl⟩ := hR
  subst hX
  show DSs _ _ _ [.v thing, .v (.int many)] _
  exact ds_retD (de_and (de_call (f := "is_whole") (c_is_whole.at hr) rfl (da_cons (de_v 0 (pv 0)) da_nil) ⟨thing, rfl, rfl⟩) (fun h_1 => by have q := h_1; (try simp only [eqD_t, eqD_f, decide_eq_true_eq, decide_eq_false_iff_not, Bool.not_eq_true', Bool.not_eq_false', Bool.and_eq_true, Bool.or_eq_true, Bool.and_eq_false_iff, Bool.or_eq_false_iff, Bool.not_true, Bool.not_false, Bool.not_not, Decidable.not_not] at q); exact (de_one (de_chain_le_lt de_int (de_asI (de_v 0 (pv 0)) (by first | assumption | exact whole_of (by first | assumption | grind) | exact lwhole_of (by first | assumption | grind))) (de_v 1 (pv 1)))))) (.inl (by simp only [m_is_place, cond_true, cond_false, Bool.not_true, Bool.not_false, goM, goN]; try rfl))
theorem place_whole {x : PyData} {m : Int} (h : m_is_place x m = true) : isWhole x = true := by
  unfold m_is_place at h
  rw [Bool.and_eq_true] at h
  exact whole_of h.1
theorem place_int (i m : Int) : m_is_place (.int i) m = (decide (0 ≤ i) && decide (i < m)) := rfl
theorem place_odd {x : PyData} {m : Int} (h : isWhole x = false) : m_is_place x m = false := by
  cases x <;> first | rfl | cases h
def m_two_places (start : PySem.PyData) (end_v : PySem.PyData) (many : Int) : Bool := ((m_is_place start many) && ((m_is_place end_v many) && (!decide ((asI start) = (asI end_v)))))
def r_two_places (xs : List PyData) (r : Res) : Prop := ∃ (start : PySem.PyData) (end_v : PySem.PyData) (many : Int), xs = [start, end_v, (.int many)] ∧ r = .v (.bool (m_two_places start end_v many))
abbrev N_two_places : List Str := ["start", "end", "many"]
theorem sc_two_places : FnScope N_two_places ["start", "end", "many"] (defScope s_two_places) := ⟨rfl, rfl, rfl, by decide +kernel, rfl, by decide +kernel, by decide +kernel⟩
theorem ok_two_places (F : Def K mg "two_places" s_two_places ["start", "end", "many"]) (T : Txt K mg A) (c_is_place : Cal P w K mg base "is_place" 2 r_is_place 2) : Cal P w K mg base "two_places" 3 r_two_places 3 := by
  refine cal_ok F sc_two_places rfl fun fa cdv AA outer ss HH EE X hX C hr xs r hl hR => ?_
  obtain ⟨start, end_v, many, rfl, rfl⟩ := hR
  subst hX
  show DSs _ _ _ [.v start, .v end_v, .v (.int many)] _
  exact ds_retD (de_and (de_call (f := "is_place") (c_is_place.at hr) rfl (da_cons (de_v 0 (pv 0)) (da_cons (de_v 2 (pv 2)) da_nil)) ⟨start, many, rfl, rfl⟩) (fun h_2 => by have q := h_2; (try simp only [eqD_t, eqD_f, decide_eq_true_eq, decide_eq_false_iff_not, Bool.not_eq_true', Bool.not_eq_false', Bool.and_eq_true, Bool.or_eq_true, Bool.and_eq_false_iff, Bool.or_eq_false_iff, Bool.not_true, Bool.not_false, Bool.not_not, Decidable.not_not] at q); exact (de_and (de_call (f := "is_place") (c_is_place.at hr) rfl (da_cons (de_v 1 (pv 1)) (da_cons (de_v 2 (pv 2)) da_nil)) ⟨end_v, many, rfl, rfl⟩) (fun h_1 => by have q := h_1; (try simp only [eqD_t, eqD_f, decide_eq_true_eq, decide_eq_false_iff_not, Bool.not_eq_true', Bool.not_eq_false', Bool.and_eq_true, Bool.or_eq_true, Bool.and_eq_false_iff, Bool.or_eq_false_iff, Bool.not_true, Bool.not_false, Bool.not_not, Decidable.not_not] at q); exact (de_one (de_neI (de_asI (de_v 0 (pv 0)) (by first | assumption | exact place_whole (by first | assumption | grind))) (de_asI (de_v 1 (pv 1)) (by first | assumption | exact place_whole (by first | assumption | grind))))))))) (.inl (by simp only [m_two_places, cond_true, cond_false, Bool.not_true, Bool.not_false, goM, goN]; try rfl))
def m_from_nought (thing : PySem.PyData) : Bool := ((m_is_fraction thing) && (decide ((0 : Int) ≤ (asI (gx (elems thing) (0 : Int))))))
def r_from_nought (xs : List PyData) (r : Res) : Prop := ∃ (thing : PySem.PyData), xs = [thing] ∧ r = .v (.bool (m_from_nought thing))
theorem isfr_frD {x : PyData} (h : m_is_fraction x = true) : isFrD x = true := by
  unfold m_is_fraction at h
  cases h1 : isTuple x with
  | false => rw [h1] at h; cases h
  | true =>
    rw [h1] at h
    by_cases h2 : pyLen x = 2
    · rw [decide_eq_true h2] at h
      cases h3 : m_is_whole (gx (elems x) 0) with
      | false => rw [h3] at h; cases h
      | true =>
        cases h4 : m_is_whole (gx (elems x) 1) with
        | false => rw [h3, h4] at h; cases h
        | true => exact frD_mk h1 h2 (whole_of h3) (whole_of h4)
    · rw [decide_eq_false h2] at h
      cases h
theorem isfr_int (a b : Int) : m_is_fraction (.tuple [.int a, .int b]) = (decide (0 < b) && decide (Int.gcd a b = 1)) := by
  have e : m_is_fraction (.tuple [.int a, .int b]) = bif decide (b < 1) then false else decide (m_common_part a b = 1) := rfl
  rw [e, m_common_part_eq]
  by_cases h : b < 1
  · rw [decide_eq_true h, decide_eq_false (show ¬ 0 < b by omega)]
    rfl
  · rw [decide_eq_false h, decide_eq_true (show 0 < b by omega)]
    show decide (((Int.gcd a b : Nat) : Int) = 1) = (true && decide (Int.gcd a b = 1))
    rw [Bool.true_and, decide_eq_decide]
    omega
theorem isfr_seq {x : PyData} (h : m_is_fraction x = true) : isTuple x = true := by
  unfold m_is_fraction at h
  cases h1 : isTuple x with
  | false => rw [h1] at h; cases h
  | true => rfl
theorem isfr_len {x : PyData} (h : m_is_fraction x = true) : pyLen x = 2 := by
  rw [asFr_eq (isfr_frD h)]
  rfl
theorem isfr_whole0 {x : PyData} (h : m_is_fraction x = true) : isWhole (gx (elems x) 0) = true := by
  rw [asFr_eq (isfr_frD h)]
  rfl
abbrev N_from_nought : List Str := ["thing"]
theorem sc_from_nought : FnScope N_from_nought ["thing"] (defScope s_from_nought) := ⟨rfl, rfl, rfl, by decide +kernel, rfl, by decide +kernel, by decide +kernel⟩
theorem ok_from_nought (F : Def K mg "from_nought" s_from_nought ["thing"]) (T : Txt K mg A) (c_is_fraction : Cal P w K mg base "is_fraction" 1 r_is_fraction 2) : Cal P w K mg base "from_nought" 1 r_from_nought 3 := by
  refine cal_ok F sc_from_nought rfl fun fa cdv AA outer ss HH EE X hX C hr xs r hl hR => ?_
  obtain ⟨thing, rfl, rfl⟩ := hR
  subst hX
  show DSs _ _ _ [.v thing] _
  exact ds_retD (de_and (de_call (f := "is_fraction") (c_is_fraction.at hr) rfl (da_cons (de_v 0 (pv 0)) da_nil) ⟨thing, rfl, rfl⟩) (fun h_1 => by have q := h_1; (try simp only [eqD_t, eqD_f, decide_eq_true_eq, decide_eq_false_iff_not, Bool.not_eq_true', Bool.not_eq_false', Bool.and_eq_true, Bool.or_eq_true, Bool.and_eq_false_iff, Bool.or_eq_false_iff, Bool.not_true, Bool.not_false, Bool.not_not, Decidable.not_not] at q); exact (de_one (de_ge (de_asI (de_ixA (de_v 0 (pv 0)) de_int (by exact .inl (isfr_seq (by first | assumption | grind))) (by exact inR_py (by decide) (by rw [isfr_len (by first | assumption | grind)]; decide))) (by exact isfr_whole0 (by first | assumption | grind))) de_int)))) (.inl (by simp only [m_from_nought, cond_true, cond_false, Bool.not_true, Bool.not_false, goM, goN]; try rfl))
theorem nought_fr {x : PyData} (h : m_from_nought x = true) : m_is_fraction x = true := by
  unfold m_from_nought at h
  rw [Bool.and_eq_true] at h
  exact h.1
theorem nought_eq (p : Fr) : m_from_nought (eP .int .int p) = ((decide (0 < p.2) && decide (Int.gcd p.1 p.2 = 1)) && decide (0 ≤ p.1)) := by
  unfold m_from_nought
  rw [isfr_int]
  rfl
def m_road_fits (road : PySem.PyData) (many : Int) : Bool := (bif ((!decide ((pyLen road) = (5 : Int))) || (!(m_two_places (gx (elems road) (0 : Int)) (gx (elems road) (1 : Int)) many))) then false else ((m_from_nought (gx (elems road) (2 : Int))) && ((m_from_nought (gx (elems road) (3 : Int))) && (isBool (gx (elems road) (4 : Int))))))
def r_road_fits (xs : List PyData) (r : Res) : Prop := ∃ (road : PySem.PyData) (many : Int), (isTuple road = true) ∧ xs = [road, (.int many)] ∧ r = .v (.bool (m_road_fits road many))
abbrev N_road_fits : List Str := ["road", "many"]
theorem sc_road_fits : FnScope N_road_fits ["road", "many"] (defScope s_road_fits) := ⟨rfl, rfl, rfl, by decide +kernel, rfl, by decide +kernel, by decide +kernel⟩
theorem ok_road_fits (F : Def K mg "road_fits" s_road_fits ["road", "many"]) (T : Txt K mg A) (c_two_places : Cal P w K mg base "two_places" 3 r_two_places 3) (c_from_nought : Cal P w K mg base "from_nought" 1 r_from_nought 3) : Cal P w K mg base "road_fits" 2 r_road_fits 4 := by
  refine cal_ok F sc_road_fits rfl fun fa cdv AA outer ss HH EE X hX C hr xs r hl hR => ?_
  obtain ⟨road, many, pre_0, rfl, rfl⟩ := hR
  subst hX
  show DSs _ _ _ [.v road, .v (.int many)] _
  refine ds_ifr (DW.toT (dw_or (dt_neI (de_lenA (de_v 0 (pv 0)) (by first | exact .inl (by first | assumption | grind) | exact .inr (by first | assumption | grind)) rfl T.b_len) de_int) (fun h_1 => by have q := h_1; (try simp only [eqD_t, eqD_f, decide_eq_true_eq, decide_eq_false_iff_not, Bool.not_eq_true', Bool.not_eq_false', Bool.and_eq_true, Bool.or_eq_true, Bool.and_eq_false_iff, Bool.or_eq_false_iff, Bool.not_true, Bool.not_false, Bool.not_not, Decidable.not_not] at q); exact (dw_or1 (dt_not (dt_val (de_call (f := "two_places") (c_two_places.at hr) rfl (da_cons (de_ixA (de_v 0 (pv 0)) de_int (by first | exact .inl (by first | assumption | grind) | exact .inr (by first | assumption | grind)) (by exact inR_py (by decide) (by omega))) (da_cons (de_ixA (de_v 0 (pv 0)) de_int (by first | exact .inl (by first | assumption | grind) | exact .inr (by first | assumption | grind)) (by exact inR_py (by decide) (by omega))) (da_cons (de_v 1 (pv 1)) da_nil))) ⟨(gx (elems road) (0 : Int)), (gx (elems road) (1 : Int)), many, rfl, rfl⟩))))))) (fun c_1 => ?_) (fun c_1 => ?_)
  · have q_c_1 := c_1
    try simp only [eqD_t, eqD_f, decide_eq_true_eq, decide_eq_false_iff_not, Bool.not_eq_true', Bool.not_eq_false', Bool.and_eq_true, Bool.or_eq_true, Bool.and_eq_false_iff, Bool.or_eq_false_iff, Bool.not_true, Bool.not_false, Bool.not_not, Decidable.not_not] at q_c_1
    exact ds_retD de_bl (.inl (by first | (simp only [m_road_fits, c_1, cond_true, cond_false, Bool.not_true, Bool.not_false, goM, goN]; first | done | rfl) | (simp only [m_road_fits]; rw [c_1]; first | done | rfl) | (simp only [m_road_fits]; (try dsimp only at c_1); (try simp only [c_1, cond_true, cond_false, Bool.not_true, Bool.not_false, goM, goN]); first | done | rfl)))
  have q_c_1 := c_1
  try simp only [eqD_t, eqD_f, decide_eq_true_eq, decide_eq_false_iff_not, Bool.not_eq_true', Bool.not_eq_false', Bool.and_eq_true, Bool.or_eq_true, Bool.and_eq_false_iff, Bool.or_eq_false_iff, Bool.not_true, Bool.not_false, Bool.not_not, Decidable.not_not] at q_c_1
  exact ds_retD (de_and (de_call (f := "from_nought") (c_from_nought.at hr) rfl (da_cons (de_ixA (de_v 0 (pv 0)) de_int (by first | exact .inl (by first | assumption | grind) | exact .inr (by first | assumption | grind)) (by exact inR_py (by decide) (by omega))) da_nil) ⟨(gx (elems road) (2 : Int)), rfl, rfl⟩) (fun h_3 => by have q := h_3; (try simp only [eqD_t, eqD_f, decide_eq_true_eq, decide_eq_false_iff_not, Bool.not_eq_true', Bool.not_eq_false', Bool.and_eq_true, Bool.or_eq_true, Bool.and_eq_false_iff, Bool.or_eq_false_iff, Bool.not_true, Bool.not_false, Bool.not_not, Decidable.not_not] at q); exact (de_and (de_call (f := "from_nought") (c_from_nought.at hr) rfl (da_cons (de_ixA (de_v 0 (pv 0)) de_int (by first | exact .inl (by first | assumption | grind) | exact .inr (by first | assumption | grind)) (by exact inR_py (by decide) (by omega))) da_nil) ⟨(gx (elems road) (3 : Int)), rfl, rfl⟩) (fun h_2 => by have q := h_2; (try simp only [eqD_t, eqD_f, decide_eq_true_eq, decide_eq_false_iff_not, Bool.not_eq_true', Bool.not_eq_false', Bool.and_eq_true, Bool.or_eq_true, Bool.and_eq_false_iff, Bool.or_eq_false_iff, Bool.not_true, Bool.not_false, Bool.not_not, Decidable.not_not] at q); exact (de_one (de_isi (kit_bool (gx (elems road) (4 : Int))) (de_ixA (de_v 0 (pv 0)) de_int (by first | exact .inl (by first | assumption | grind) | exact .inr (by first | assumption | grind)) (by exact inR_py (by decide) (by omega))) rfl T.b_isinstance rfl T.b_bool)))))) (.inl (by first | (simp only [m_road_fits, c_1, cond_true, cond_false, Bool.not_true, Bool.not_false, goM, goN]; first | done | rfl) | (simp only [m_road_fits]; rw [c_1]; first | done | rfl) | (simp only [m_road_fits]; (try dsimp only at c_1); (try simp only [c_1, cond_true, cond_false, Bool.not_true, Bool.not_false, goM, goN]); first | done | rfl)))
def l_made_net_1 (k_many : Int) (s_1 : Unit) (a_1 : (T5 Int Int (Int × Int) (Int × Int) Bool)) : Go (Unit) (Except Er (Int × (List (T5 Int Int (Int × Int) (Int × Int) Bool)))) := (bif (!(m_road_fits ((eT5 PyData.int PyData.int (eP PyData.int PyData.int) (eP PyData.int PyData.int) PyData.bool) a_1) k_many)) then (.rt (.error (er 2))) else (.nx ()))
def m_made_net (many : Int) (roads : (List (T5 Int Int (Int × Int) (Int × Int) Bool))) : Except Er (Int × (List (T5 Int Int (Int × Int) (Int × Int) Bool))) := (bif ((!(m_is_whole (.int many))) || ((decide (many < (2 : Int))) || ((decide ((6 : Int) < many)) || (decide ((12 : Int) < (roads.length : Int)))))) then (.error (er 2)) else (goM (forG (l_made_net_1 many) roads ()) (fun r => r) (fun s_2 => (.ok (many, roads)))))
def r_made_net (A : Nat → Addr) (xs : List PyData) (r : Res) : Prop := ∃ (many : Int) (roads : (List (T5 Int Int (Int × Int) (Int × Int) Bool))), (roads.length ≤ 1000) ∧ xs = [(.int many), ((eL (eT5 PyData.int PyData.int (eP PyData.int PyData.int) (eP PyData.int PyData.int) PyData.bool)) roads)] ∧ r = resEO A (oPL PyData.int (eT5 PyData.int PyData.int (eP PyData.int PyData.int) (eP PyData.int PyData.int) PyData.bool)) (m_made_net many roads)
abbrev N_made_net : List Str := ["many", "roads", "road"]
theorem sc_made_net : FnScope N_made_net ["many", "roads"] (defScope s_made_net) := ⟨rfl, rfl, rfl, by decide +kernel, rfl, by decide +kernel, by decide +kernel⟩
theorem ok_made_net (F : Def K mg "made_net" s_made_net ["many", "roads"]) (T : Txt K mg A) (c_is_whole : Cal P w K mg base "is_whole" 1 r_is_whole 1) (c_road_fits : Cal P w K mg base "road_fits" 2 r_road_fits 4) : Cal P w K mg base "made_net" 2 (r_made_net A) 5 := by
  refine cal_ok F sc_made_net rfl fun fa cdv AA outer ss HH EE X hX C hr xs r hl hR => ?_
  obtain ⟨many, roads, pre_0, rfl, rfl⟩ := hR
  subst hX
  show DSs _ _ _ [.v (.int many), .v ((eL (eT5 PyData.int PyData.int (eP PyData.int PyData.int) (eP PyData.int PyData.int) PyData.bool)) roads), .no] _
  refine ds_ifr (DW.toT (dw_or (dt_not (dt_val (de_call (f := "is_whole") (c_is_whole.at hr) rfl (da_cons (de_v 0 (pv 0)) da_nil) ⟨(.int many), rfl, rfl⟩))) (fun _ => (dw_or (dt_lt (de_v 0 (pv 0)) de_int) (fun _ => (dw_or (dt_gt (de_v 0 (pv 0)) (de_const T.c_MOST_PLACES rfl)) (fun _ => (dw_or1 (dt_gt (de_lenL (de_v 1 (pv 1)) rfl T.b_len) (de_const T.c_MOST_ROADS rfl)))))))))) (fun c_1 => ?_) (fun c_1 => ?_)
  · have q_c_1 := c_1
    try simp only [eqD_t, eqD_f, decide_eq_true_eq, decide_eq_false_iff_not, Bool.not_eq_true', Bool.not_eq_false', Bool.and_eq_true, Bool.or_eq_true, Bool.and_eq_false_iff, Bool.or_eq_false_iff, Bool.not_true, Bool.not_false, Bool.not_not, Decidable.not_not] at q_c_1
    exact ds_raise C T.x_NoNet rfl (by first | (simp only [m_made_net, resE, resEO, fin, c_1, cond_true, cond_false, Bool.not_true, Bool.not_false, goM, goN]; first | done | rfl) | (simp only [m_made_net, resE, resEO, fin]; rw [c_1]; first | done | rfl) | (simp only [m_made_net, resE, resEO, fin]; (try dsimp only at c_1); (try simp only [c_1, cond_true, cond_false, Bool.not_true, Bool.not_false, goM, goN]); first | done | rfl))
  have q_c_1 := c_1
  try simp only [eqD_t, eqD_f, decide_eq_true_eq, decide_eq_false_iff_not, Bool.not_eq_true', Bool.not_eq_false', Bool.and_eq_true, Bool.or_eq_true, Bool.and_eq_false_iff, Bool.or_eq_false_iff, Bool.not_true, Bool.not_false, Bool.not_not, Decidable.not_not] at q_c_1
  refine ds_forG (items := roads) (ea := (eT5 PyData.int PyData.int (eP PyData.int PyData.int) (eP PyData.int PyData.int) PyData.bool)) (fun (s_1 : Unit) => [.v (.int many), .v ((eL (eT5 PyData.int PyData.int (eP PyData.int PyData.int) (eP PyData.int PyData.int) PyData.bool)) roads), .no]) (l_made_net_1 many) () (fun (i_1 : Nat) (s_1 : Unit) => True) (fun (s_1 : Unit) => True) (fun (r : (Except Er (Int × (List (T5 Int Int (Int × Int) (Int × Int) Bool))))) o => fin (resEO A (oPL PyData.int (eT5 PyData.int PyData.int (eP PyData.int PyData.int) (eP PyData.int PyData.int) PyData.bool)) r) o) C (di_list (de_v 1 (pv 1))) (tg_name (ln 2 sc_made_net.nd)) (by repeat (first | exact Le.nil | refine Le.same ?_ | refine Le.drop ?_)) (by first | trivial | omega) ?_ (fun _ h => h) ?_ ?_
  · intro i_1 a_1 s_1 ha_1 hi_1
    refine ⟨[.v (.int many), .v ((eL (eT5 PyData.int PyData.int (eP PyData.int PyData.int) (eP PyData.int PyData.int) PyData.bool)) roads), .v ((eT5 PyData.int PyData.int (eP PyData.int PyData.int) (eP PyData.int PyData.int) PyData.bool) a_1)], rfl, ?_⟩
    refine ds_ifr (dt_not (dt_val (de_call (f := "road_fits") (c_road_fits.at hr) rfl (da_cons (de_v 2 (pv 2)) (da_cons (de_v 0 (pv 0)) da_nil)) ⟨((eT5 PyData.int PyData.int (eP PyData.int PyData.int) (eP PyData.int PyData.int) PyData.bool) a_1), many, (by first | omega | assumption | exact rfl | decide), rfl, rfl⟩))) (fun c_2 => ?_) (fun c_2 => ?_)
    · have q_c_2 := c_2
      try simp only [eqD_t, eqD_f, decide_eq_true_eq, decide_eq_false_iff_not, Bool.not_eq_true', Bool.not_eq_false', Bool.and_eq_true, Bool.or_eq_true, Bool.and_eq_false_iff, Bool.or_eq_false_iff, Bool.not_true, Bool.not_false, Bool.not_not, Decidable.not_not] at q_c_2
      exact ds_raise C T.x_NoNet rfl ⟨.error (er 2), (by first | (simp only [l_made_net_1, c_1, c_2, cond_true, cond_false, Bool.not_true, Bool.not_false, goM, goN]; first | done | rfl) | (simp only [l_made_net_1]; rw [c_1, c_2]; first | done | rfl) | (simp only [l_made_net_1]; (try dsimp only at c_1); (try dsimp only at c_2); (try simp only [c_1, cond_true, cond_false, Bool.not_true, Bool.not_false, goM, goN]); (try simp only [c_2, cond_true, cond_false, Bool.not_true, Bool.not_false, goM, goN]); first | done | rfl)), rfl⟩
    have q_c_2 := c_2
    try simp only [eqD_t, eqD_f, decide_eq_true_eq, decide_eq_false_iff_not, Bool.not_eq_true', Bool.not_eq_false', Bool.and_eq_true, Bool.or_eq_true, Bool.and_eq_false_iff, Bool.or_eq_false_iff, Bool.not_true, Bool.not_false, Bool.not_not, Decidable.not_not] at q_c_2
    exact ds_nil ⟨(), (by first | (simp only [l_made_net_1, c_1, c_2, cond_true, cond_false, Bool.not_true, Bool.not_false, goM, goN]; first | done | rfl) | (simp only [l_made_net_1]; rw [c_1, c_2]; first | done | rfl) | (simp only [l_made_net_1]; (try dsimp only at c_1); (try dsimp only at c_2); (try simp only [c_1, cond_true, cond_false, Bool.not_true, Bool.not_false, goM, goN]); (try simp only [c_2, cond_true, cond_false, Bool.not_true, Bool.not_false, goM, goN]); first | done | rfl)), (by repeat (first | exact Le.nil | refine Le.same ?_ | refine Le.drop ?_)), (by first | trivial | omega)⟩
  · intro r o f_1 ho hr_
    have hm : m_made_net many roads = r := (by simp only [m_made_net, f_1, goM, c_1, cond_true, cond_false, Bool.not_true, Bool.not_false, goM, goN]; try rfl)
    rw [hm]; exact hr_
  intro s_2 f_1 hi_1
  exact ds_retN (dn_pair (f := PyData.int) (g := (eT5 PyData.int PyData.int (eP PyData.int PyData.int) (eP PyData.int PyData.int) PyData.bool)) (x := many) (ys := roads) (de_v 0 (pv 0)) (dn_listL (de_v 1 (pv 1)) rfl T.b_list)) (.inl (by first | (simp only [m_made_net, resE, resEO, c_1, f_1, cond_true, cond_false, Bool.not_true, Bool.not_false, goM, goN]; first | done | rfl) | (simp only [m_made_net, resE, resEO]; rw [c_1, f_1]; first | done | rfl) | (simp only [m_made_net, resE, resEO]; (try dsimp only at c_1); (try dsimp only at f_1); (try simp only [c_1, cond_true, cond_false, Bool.not_true, Bool.not_false, goM, goN]); (try simp only [f_1, cond_true, cond_false, Bool.not_true, Bool.not_false, goM, goN]); first | done | rfl)))
abbrev Rd := T5 Int Int Fr Fr Bool
def m_usable_roads (net : (Int × (List (T5 Int Int (Int × Int) (Int × Int) Bool)))) (lane : Bool) : (List Int) := (((enumL net.2).filter (fun (a_1 : (Int × (T5 Int Int (Int × Int) (Int × Int) Bool))) => (lane || (!a_1.2.e)))).map (fun (a_1 : (Int × (T5 Int Int (Int × Int) (Int × Int) Bool))) => a_1.1))
def r_usable_roads (xs : List PyData) (r : Res) : Prop := ∃ (net : (Int × (List (T5 Int Int (Int × Int) (Int × Int) Bool)))) (lane : Bool), (net.2.length ≤ 13) ∧ xs = [((eP PyData.int (eL (eT5 PyData.int PyData.int (eP PyData.int PyData.int) (eP PyData.int PyData.int) PyData.bool))) net), (.bool lane)] ∧ r = .ok ((oL PyData.int) (m_usable_roads net lane))
abbrev N_usable_roads : List Str := ["net", "lane", "number", "road"]
theorem sc_usable_roads : FnScope N_usable_roads ["net", "lane"] (defScope s_usable_roads) := ⟨rfl, rfl, rfl, by decide +kernel, rfl, by decide +kernel, by decide +kernel⟩
theorem ok_usable_roads (F : Def K mg "usable_roads" s_usable_roads ["net", "lane"]) (T : Txt K mg A)  : Cal P w K mg base "usable_roads" 2 r_usable_roads 1 := by
  refine cal_ok F sc_usable_roads rfl fun fa cdv AA outer ss HH EE X hX C hr xs r hl hR => ?_
  obtain ⟨net, lane, pre_0, rfl, rfl⟩ := hR
  subst hX
  show DSs _ _ _ [.v ((eP PyData.int (eL (eT5 PyData.int PyData.int (eP PyData.int PyData.int) (eP PyData.int PyData.int) PyData.bool))) net), .v (.bool lane), .no, .no] _
  exact ds_retN (dn_lcIf (ea := (eP PyData.int (eT5 PyData.int PyData.int (eP PyData.int PyData.int) (eP PyData.int PyData.int) PyData.bool))) (eb := PyData.int) (items := (enumL net.2)) (fun (a_1 : (Int × (T5 Int Int (Int × Int) (Int × Int) Bool))) => (lane || (!a_1.2.e))) (fun (a_1 : (Int × (T5 Int Int (Int × Int) (Int × Int) Bool))) => a_1.1) rfl sc_usable_roads.nd (di_enumL (de_it (de_v 0 (pv 0)) de_int) rfl T.b_enumerate) (blkOk_by (N := N_usable_roads) (sc := defScope s_usable_roads) (own := [("number", 2), ("road", 3)]) (by decide +kernel)) (fun _ _ _ _ _ => (tg_two rfl (tg_name (ln 2 sc_usable_roads.nd)) (tg_name (ln 3 sc_usable_roads.nd)))) (by rw [sizeLine_eq]; (rw [enumL_len]; omega)) (fun a_1 h_a_1 => ⟨[.v ((eP PyData.int (eL (eT5 PyData.int PyData.int (eP PyData.int PyData.int) (eP PyData.int PyData.int) PyData.bool))) net), .v (.bool lane), .v (.int a_1.1), .v ((eT5 PyData.int PyData.int (eP PyData.int PyData.int) (eP PyData.int PyData.int) PyData.bool) a_1.2)], rfl, fun _ _ _ _ _ => ⟨(DW.toT (dw_or (dt_val (de_v 1 (pv 1))) (fun _ => (dw_or1 (dt_not (dt_val (de_it (de_v 3 (pv 3)) de_int))))))), fun _ => (de_v 2 (pv 2))⟩⟩)) (.inl (by simp only [m_usable_roads, cond_true, cond_false, Bool.not_true, Bool.not_false, goM, goN]; try rfl))
theorem usable_mem {net : Int × List Rd} {l : Bool} {a : Int} (h : a ∈ m_usable_roads net l) : 0 ≤ a ∧ a < net.2.length := by
  unfold m_usable_roads at h
  obtain ⟨p, h1, rfl⟩ := List.mem_map.mp h
  exact enumL_mem (List.mem_filter.mp h1).1
theorem usable_len {net : Int × List Rd} {l : Bool} (h : net.2.length ≤ 12) : (m_usable_roads net l).length ≤ 12 := by
  unfold m_usable_roads
  rw [List.length_map]
  exact Nat.le_trans (List.length_filter_le ..) (by rw [enumL_len]; exact h)
theorem usable_le {net : Int × List Rd} {l : Bool} : (m_usable_roads net l).length ≤ net.2.length := by
  unfold m_usable_roads
  rw [List.length_map]
  exact Nat.le_trans (List.length_filter_le ..) (by rw [enumL_len]; exact Nat.le_refl _)
def l_reached_from_2 (k_at_v : Int) (s_2 : (List Int)) (a_3 : (T5 Int Int (Int × Int) (Int × Int) Bool)) : Go ((List Int)) Empty := (let p_1 := (bif ((decide (a_3.a = (gx s_2 k_at_v))) && (!decide (a_3.b ∈ s_2))) then (let reached_2 := (s_2 ++ [a_3.b]); reached_2) else s_2); (.nx p_1))
def l_reached_from_1 (k_some_v : (List (T5 Int Int (Int × Int) (Int × Int) Bool))) (s_1 : (List Int) × Int) : Go ((List Int) × Int) Empty := (goN (forG (l_reached_from_2 s_1.2) k_some_v s_1.1) (fun s_3 => (let at_v_1 := (s_1.2 + (1 : Int)); (.nx (s_3, at_v_1)))))
def l_reached_from_1_c (k_some_v : (List (T5 Int Int (Int × Int) (Int × Int) Bool))) (s_1 : (List Int) × Int) : Bool := (decide (s_1.2 < (s_1.1.length : Int)))
def m_reached_from (net : (Int × (List (T5 Int Int (Int × Int) (Int × Int) Bool)))) (start : Int) (lane : Bool) : (List Int) := (let some_v_1 := ((m_usable_roads net lane).map (fun (a_1 : Int) => (gx net.2 a_1))); (let reached_1 := ([start] : (List Int)); (goN (whileG (l_reached_from_1_c some_v_1) (l_reached_from_1 some_v_1) ((fun (s_1 : (List Int) × Int) => (6 - s_1.2).toNat) (reached_1, (0 : Int)) + 1) (reached_1, (0 : Int))) (fun s_4 => (sortI s_4.1)))))
structure RcI (r : List Int) : Prop where
  nd : r.Nodup
  rg : ∀ x ∈ r, 0 ≤ x ∧ x < 6
theorem RcI.le {r : List Int} (h : RcI r) : r.length ≤ 6 := nodup_len 6 r h.nd h.rg
theorem rcI_0 {s : Int} (h : 0 ≤ s ∧ s < 6) : RcI [s] := ⟨by simp, fun x hx => by rw [List.mem_singleton.mp hx]; exact h⟩
theorem ix_of {n : Nat} {i : Int} (h : 0 ≤ i ∧ i < n) : inR n i := ⟨by omega, h.2⟩
theorem some_in {net : Int × List (T5 Int Int Fr Fr Bool)} {lane : Bool} {rs : List (T5 Int Int Fr Fr Bool)} (h : ∀ r ∈ net.2, (0 ≤ r.a ∧ r.a < 6) ∧ (0 ≤ r.b ∧ r.b < 6)) (e : rs = (m_usable_roads net lane).map (fun a => gx net.2 a)) : ∀ r ∈ rs, (0 ≤ r.a ∧ r.a < 6) ∧ (0 ≤ r.b ∧ r.b < 6) := fun r hr => by
  rw [e] at hr
  obtain ⟨k, hk, rfl⟩ := List.mem_map.mp hr
  exact h _ (gx_mem (ix_of (usable_mem hk)))
theorem reached_step {k : Int} {r : List Int} {a : T5 Int Int Fr Fr Bool} (hr : (0 ≤ a.a ∧ a.a < 6) ∧ (0 ≤ a.b ∧ a.b < 6)) (h : RcI r ∧ k < (r.length : Int)) : ∃ s', l_reached_from_2 k r a = .nx s' ∧ RcI s' ∧ k < (s'.length : Int) := by
  unfold l_reached_from_2
  refine ⟨_, rfl, ?_⟩
  try simp only
  by_cases c : a.b ∈ r
  · rw [decide_eq_true c, Bool.not_true, Bool.and_false]
    exact h
  · rw [decide_eq_false c, Bool.not_false, Bool.and_true]
    cases decide (a.a = gx r k)
    · exact h
    · refine ⟨⟨List.nodup_append.mpr ⟨h.1.nd, by simp, fun x hx y hy z => ?_⟩, fun x hx => ?_⟩, ?_⟩
      · rw [List.mem_singleton.mp hy] at z; rw [z] at hx; exact c hx
      · rcases List.mem_append.mp hx with z | z
        · exact h.1.rg x z
        · rw [List.mem_singleton.mp z]; exact hr.2
      · show k < ((r ++ [a.b]).length : Int)
        rw [List.length_append]
        have := h.2
        show k < ((r.length + 1 : Nat) : Int)
        omega
theorem reached_turn {rs : List (T5 Int Int Fr Fr Bool)} {s : List Int × Int} (hs : ∀ r ∈ rs, (0 ≤ r.a ∧ r.a < 6) ∧ (0 ≤ r.b ∧ r.b < 6)) (h : RcI s.1 ∧ 0 ≤ s.2) (hc : s.2 < (s.1.length : Int)) : ∃ s', l_reached_from_1 rs s = .nx s' ∧ (RcI s'.1 ∧ 0 ≤ s'.2) ∧ (6 - s'.2).toNat < (6 - s.2).toNat := by
  obtain ⟨r, e, h1, h2⟩ := forG_inv (f := l_reached_from_2 s.2) (xs := rs) (fun _ r => RcI r ∧ s.2 < (r.length : Int)) (fun i a r ha hi => reached_step (hs a (List.mem_of_getElem? ha)) hi) (s := s.1) ⟨h.1, hc⟩
  refine ⟨(r, s.2 + 1), ?_, ⟨h1, by show 0 ≤ s.2 + 1; omega⟩, ?_⟩
  · unfold l_reached_from_1
    rw [goN_nx e]
  · have := h.1.le
    have h0 := h.2
    show (6 - (s.2 + 1)).toNat < _
    omega
def r_reached_from (xs : List PyData) (r : Res) : Prop := ∃ (net : (Int × (List (T5 Int Int (Int × Int) (Int × Int) Bool)))) (start : Int) (lane : Bool), (net.2.length ≤ 13) ∧ (∀ r ∈ net.2, (0 ≤ r.a ∧ r.a < 6) ∧ (0 ≤ r.b ∧ r.b < 6)) ∧ (0 ≤ start ∧ start < 6) ∧ xs = [((eP PyData.int (eL (eT5 PyData.int PyData.int (eP PyData.int PyData.int) (eP PyData.int PyData.int) PyData.bool))) net), (.int start), (.bool lane)] ∧ r = .ok ((oL PyData.int) (m_reached_from net start lane))
abbrev N_reached_from : List Str := ["net", "start", "lane", "some", "number", "reached", "at", "road"]
theorem sc_reached_from : FnScope N_reached_from ["net", "start", "lane"] (defScope s_reached_from) := ⟨rfl, rfl, rfl, by decide +kernel, rfl, by decide +kernel, by decide +kernel⟩
theorem ok_reached_from (F : Def K mg "reached_from" s_reached_from ["net", "start", "lane"]) (T : Txt K mg A) (c_usable_roads : Cal P w K mg base "usable_roads" 2 r_usable_roads 1) : Cal P w K mg base "reached_from" 3 r_reached_from 2 := by
  refine cal_ok F sc_reached_from rfl fun fa cdv AA outer ss HH EE X hX C hr xs r hl hR => ?_
  obtain ⟨net, start, lane, pre_0, pre_1, pre_2, rfl, rfl⟩ := hR
  subst hX
  show DSs _ _ _ [.v ((eP PyData.int (eL (eT5 PyData.int PyData.int (eP PyData.int PyData.int) (eP PyData.int PyData.int) PyData.bool))) net), .v (.int start), .v (.bool lane), .no, .no, .no, .no, .no] _
  have hrl := pre_0
  obtain ⟨some_v_1, e_some_v_1⟩ : ∃ z : (List (T5 Int Int (Int × Int) (Int × Int) Bool)), z = ((m_usable_roads net lane).map (fun (a_1 : Int) => (gx net.2 a_1))) := ⟨_, rfl⟩
  refine ds_then (E' := [.v ((eP PyData.int (eL (eT5 PyData.int PyData.int (eP PyData.int PyData.int) (eP PyData.int PyData.int) PyData.bool))) net), .v (.int start), .v (.bool lane), .o (oL (eT5 PyData.int PyData.int (eP PyData.int PyData.int) (eP PyData.int PyData.int) PyData.bool) ((m_usable_roads net lane).map (fun (a_1 : Int) => (gx net.2 a_1)))), .no, .no, .no, .no]) (ds_setLc (ea := PyData.int) (eb := (eT5 PyData.int PyData.int (eP PyData.int PyData.int) (eP PyData.int PyData.int) PyData.bool)) (items := (m_usable_roads net lane)) (fun (a_1 : Int) => (gx net.2 a_1)) (ln 3 sc_reached_from.nd) rfl (sw_true rfl rfl rfl (by decide +kernel)) rfl (di_list (DN.toL (f := PyData.int) (xs := (m_usable_roads net lane)) (dn_call (f := "usable_roads") (t := (oL PyData.int) (m_usable_roads net lane)) (c_usable_roads.at hr) rfl (da_cons (de_v 0 (pv 0)) (da_cons (de_v 2 (pv 2)) da_nil)) ⟨net, lane, (by first | omega | assumption | decide), rfl, rfl⟩))) (blkOk_by (N := N_reached_from) (sc := defScope s_reached_from) (own := [("number", 4)]) (by decide +kernel)) (fun _ _ _ _ _ => (tg_name (ln 4 sc_reached_from.nd))) (by rw [sizeLine_eq]; (have := usable_le (net := net) (l := lane); omega)) (fun a_1 h_a_1 => ⟨[.v ((eP PyData.int (eL (eT5 PyData.int PyData.int (eP PyData.int PyData.int) (eP PyData.int PyData.int) PyData.bool))) net), .v (.int start), .v (.bool lane), .no, .v (.int a_1), .no, .no, .no], rfl, fun _ _ _ _ _ => (de_ixL (f := (eT5 PyData.int PyData.int (eP PyData.int PyData.int) (eP PyData.int PyData.int) PyData.bool)) (xs := net.2) (i := a_1) (de_it (de_v 0 (pv 0)) de_int) (de_v 4 (pv 4)) (by first | first | exact ⟨by omega, by omega⟩ | exact ix_of (usable_mem (by assumption)) | (first | exact ⟨by omega, by omega⟩ | exact inR_mod (by omega) | (unfold inR; simp only [List.length_map, List.length_append, List.length_cons, List.length_nil, List.length_replicate, rng_len, sx_len]; omega))))⟩)) ?_
  rw [← e_some_v_1]
  refine ds_freezeL 3 (E' := [.v ((eP PyData.int (eL (eT5 PyData.int PyData.int (eP PyData.int PyData.int) (eP PyData.int PyData.int) PyData.bool))) net), .v (.int start), .v (.bool lane), .v ((eL (eT5 PyData.int PyData.int (eP PyData.int PyData.int) (eP PyData.int PyData.int) PyData.bool)) some_v_1), .no, .no, .no, .no]) rfl rfl ?_
  have hsm := some_in pre_1 e_some_v_1
  obtain ⟨reached_1, e_reached_1⟩ : ∃ z : (List Int), z = ([start] : (List Int)) := ⟨_, rfl⟩
  refine ds_then (E' := [.v ((eP PyData.int (eL (eT5 PyData.int PyData.int (eP PyData.int PyData.int) (eP PyData.int PyData.int) PyData.bool))) net), .v (.int start), .v (.bool lane), .v ((eL (eT5 PyData.int PyData.int (eP PyData.int PyData.int) (eP PyData.int PyData.int) PyData.bool)) some_v_1), .no, .o (oL PyData.int reached_1), .no, .no]) (ds_setN (t := oL PyData.int reached_1) (ln 5 sc_reached_from.nd) (dnC (by subst e_reached_1; rfl) (dn_lst (da_cons (de_v 1 (pv 1)) da_nil)))) ?_
  refine ds_then (E' := [.v ((eP PyData.int (eL (eT5 PyData.int PyData.int (eP PyData.int PyData.int) (eP PyData.int PyData.int) PyData.bool))) net), .v (.int start), .v (.bool lane), .v ((eL (eT5 PyData.int PyData.int (eP PyData.int PyData.int) (eP PyData.int PyData.int) PyData.bool)) some_v_1), .no, .o (oL PyData.int reached_1), .v (.int (0 : Int)), .no]) (ds_set (x := (.int (0 : Int))) (ln 6 sc_reached_from.nd) de_int) ?_
  refine ds_whileG (fun (s_1 : (List Int) × Int) => [.v ((eP PyData.int (eL (eT5 PyData.int PyData.int (eP PyData.int PyData.int) (eP PyData.int PyData.int) PyData.bool))) net), .v (.int start), .v (.bool lane), .v ((eL (eT5 PyData.int PyData.int (eP PyData.int PyData.int) (eP PyData.int PyData.int) PyData.bool)) some_v_1), .no, .o (oL PyData.int s_1.1), .v (.int s_1.2), .no]) (l_reached_from_1_c some_v_1) (l_reached_from_1 some_v_1) (fun (s_1 : (List Int) × Int) => (6 - s_1.2).toNat) (reached_1, (0 : Int)) (fun (s_1 : (List Int) × Int) => RcI s_1.1 ∧ 0 ≤ s_1.2) (fun (s_1 : (List Int) × Int) => RcI s_1.1 ∧ 0 ≤ s_1.2) (fun (_ : Empty) _ => False) C (by repeat (first | exact Le.nil | refine Le.same ?_ | refine Le.drop ?_)) (by subst e_reached_1; exact ⟨rcI_0 pre_2, Int.le_refl _⟩) ?_ ?_ (fun _ h _ => h) ?_ ?_
  · intro s_1 hi_1
    exact (dt_borrowS 5 (dat_L PyData.int) rfl (dt_lt (de_v 6 (pv 6)) (de_lenL (de_v 5 (pv 5)) rfl T.b_len)))
  · intro s_1 hi_1 c_1
    have q_c_1 : (decide (s_1.2 < (s_1.1.length : Int))) = true := c_1
    try simp only [eqD_t, eqD_f, decide_eq_true_eq, decide_eq_false_iff_not, Bool.not_eq_true', Bool.not_eq_false', Bool.and_eq_true, Bool.or_eq_true, Bool.and_eq_false_iff, Bool.or_eq_false_iff, Bool.not_true, Bool.not_false, Bool.not_not, Decidable.not_not] at q_c_1
    refine ds_forG (items := some_v_1) (ea := (eT5 PyData.int PyData.int (eP PyData.int PyData.int) (eP PyData.int PyData.int) PyData.bool)) (fun (s_2 : (List Int)) => [.v ((eP PyData.int (eL (eT5 PyData.int PyData.int (eP PyData.int PyData.int) (eP PyData.int PyData.int) PyData.bool))) net), .v (.int start), .v (.bool lane), .v ((eL (eT5 PyData.int PyData.int (eP PyData.int PyData.int) (eP PyData.int PyData.int) PyData.bool)) some_v_1), .no, .o (oL PyData.int s_2), .v (.int s_1.2), .no]) (l_reached_from_2 s_1.2) s_1.1 (fun (i_2 : Nat) (s_2 : (List Int)) => RcI s_2 ∧ s_1.2 < (s_2.length : Int)) (fun (s_2 : (List Int)) => RcI s_2 ∧ s_1.2 < (s_2.length : Int)) (fun (_ : Empty) _ => False) C (di_list (de_v 3 (pv 3))) (tg_name (ln 7 sc_reached_from.nd)) (by repeat (first | exact Le.nil | refine Le.same ?_ | refine Le.drop ?_)) (by exact ⟨hi_1.1, by omega⟩) ?_ (fun _ h => h) ?_ ?_
    · intro i_2 a_3 s_2 ha_2 hi_2
      refine ⟨[.v ((eP PyData.int (eL (eT5 PyData.int PyData.int (eP PyData.int PyData.int) (eP PyData.int PyData.int) PyData.bool))) net), .v (.int start), .v (.bool lane), .v ((eL (eT5 PyData.int PyData.int (eP PyData.int PyData.int) (eP PyData.int PyData.int) PyData.bool)) some_v_1), .no, .o (oL PyData.int s_2), .v (.int s_1.2), .v ((eT5 PyData.int PyData.int (eP PyData.int PyData.int) (eP PyData.int PyData.int) PyData.bool) a_3)], rfl, ?_⟩
      have hr := hsm a_3 (List.mem_of_getElem? ha_2)
      obtain ⟨p_1, e_p_1⟩ : ∃ z : (List Int), z = (bif ((decide (a_3.a = (gx s_2 s_1.2))) && (!decide (a_3.b ∈ s_2))) then (let reached_2 := (s_2 ++ [a_3.b]); reached_2) else s_2) := ⟨_, rfl⟩
      try dsimp only at e_p_1
      refine ds_ifl (E' := [.v ((eP PyData.int (eL (eT5 PyData.int PyData.int (eP PyData.int PyData.int) (eP PyData.int PyData.int) PyData.bool))) net), .v (.int start), .v (.bool lane), .v ((eL (eT5 PyData.int PyData.int (eP PyData.int PyData.int) (eP PyData.int PyData.int) PyData.bool)) some_v_1), .no, .o (oL PyData.int p_1), .v (.int s_1.2), .v ((eT5 PyData.int PyData.int (eP PyData.int PyData.int) (eP PyData.int PyData.int) PyData.bool) a_3)]) (dt_borrowS 5 (dat_L PyData.int) rfl (DW.toT (dw_and (dt_eqI (de_it (de_v 7 (pv 7)) de_int) (de_ixL (de_v 5 (pv 5)) (de_v 6 (pv 6)) (by first | first | exact ⟨by omega, by omega⟩ | exact ix_of (usable_mem (by assumption)) | (first | exact ⟨by omega, by omega⟩ | exact inR_mod (by omega) | (unfold inR; simp only [List.length_map, List.length_append, List.length_cons, List.length_nil, List.length_replicate, rng_len, sx_len]; omega))))) (fun _ => (dw_and1 (dt_niI (de_it (de_v 7 (pv 7)) de_int) (de_v 5 (pv 5)))))))) (fun c_2 => ?_) (fun c_2 => ?_) ?_
      · have q_c_2 := c_2
        try simp only [eqD_t, eqD_f, decide_eq_true_eq, decide_eq_false_iff_not, Bool.not_eq_true', Bool.not_eq_false', Bool.and_eq_true, Bool.or_eq_true, Bool.and_eq_false_iff, Bool.or_eq_false_iff, Bool.not_true, Bool.not_false, Bool.not_not, Decidable.not_not] at q_c_2
        obtain ⟨reached_2, e_reached_2⟩ : ∃ z : (List Int), z = (s_2 ++ [a_3.b]) := ⟨_, rfl⟩
        refine ds_then (E' := [.v ((eP PyData.int (eL (eT5 PyData.int PyData.int (eP PyData.int PyData.int) (eP PyData.int PyData.int) PyData.bool))) net), .v (.int start), .v (.bool lane), .v ((eL (eT5 PyData.int PyData.int (eP PyData.int PyData.int) (eP PyData.int PyData.int) PyData.bool)) some_v_1), .no, .o (oL PyData.int reached_2), .v (.int s_1.2), .v ((eT5 PyData.int PyData.int (eP PyData.int PyData.int) (eP PyData.int PyData.int) PyData.bool) a_3)]) (ds_appendL (f := PyData.int) (v := a_3.b) (xs := s_2) (fun _ => pv 5) (de_it (de_v 7 (pv 7)) de_int) rfl (by rw [sizeLine_eq]; (have h7 := hi_2.1.le; omega)) (by subst e_reached_2; rfl)) ?_
        exact ds_nil (by subst e_p_1 e_reached_2; (try simp only [c_2, cond_true, cond_false, Bool.not_true, Bool.not_false, goM, goN]); (show Le _ _); repeat (first | exact Le.nil | refine Le.same ?_ | refine Le.drop ?_))
      · have q_c_2 := c_2
        try simp only [eqD_t, eqD_f, decide_eq_true_eq, decide_eq_false_iff_not, Bool.not_eq_true', Bool.not_eq_false', Bool.and_eq_true, Bool.or_eq_true, Bool.and_eq_false_iff, Bool.or_eq_false_iff, Bool.not_true, Bool.not_false, Bool.not_not, Decidable.not_not] at q_c_2
        exact ds_nil (by subst e_p_1; (try simp only [c_2, cond_true, cond_false, Bool.not_true, Bool.not_false, goM, goN]); (show Le _ _); repeat (first | exact Le.nil | refine Le.same ?_ | refine Le.drop ?_))
      exact ds_nil ⟨p_1, (by subst e_some_v_1 e_reached_1 e_p_1; simp only [l_reached_from_2, cond_true, cond_false, Bool.not_true, Bool.not_false, goM, goN]; try rfl), (by repeat (first | exact Le.nil | refine Le.same ?_ | refine Le.drop ?_)), (by have hz := go_inv (v := p_1) (reached_step hr hi_2) (by subst e_some_v_1 e_reached_1 e_p_1; simp only [l_reached_from_2, cond_true, cond_false, Bool.not_true, Bool.not_false, goM, goN]; try rfl); exact hz)⟩
    · intro r o f_1 ho hr_
      exact r.elim
    intro s_3 f_1 hi_2
    obtain ⟨at_v_1, e_at_v_1⟩ : ∃ z : Int, z = (s_1.2 + (1 : Int)) := ⟨_, rfl⟩
    refine ds_then (E' := [.v ((eP PyData.int (eL (eT5 PyData.int PyData.int (eP PyData.int PyData.int) (eP PyData.int PyData.int) PyData.bool))) net), .v (.int start), .v (.bool lane), .v ((eL (eT5 PyData.int PyData.int (eP PyData.int PyData.int) (eP PyData.int PyData.int) PyData.bool)) some_v_1), .no, .o (oL PyData.int s_3), .v (.int at_v_1), .no]) (ds_aug ip_add (ln 6 sc_reached_from.nd) de_int rfl (by subst e_at_v_1; rfl)) ?_
    exact ds_nil ⟨(s_3, at_v_1), (by subst e_some_v_1 e_reached_1 e_at_v_1; first | (simp only [l_reached_from_1, f_1, cond_true, cond_false, Bool.not_true, Bool.not_false, goM, goN]; first | done | rfl) | (simp only [l_reached_from_1]; rw [f_1]; first | done | rfl) | (simp only [l_reached_from_1]; (try dsimp only at f_1); (try simp only [f_1, cond_true, cond_false, Bool.not_true, Bool.not_false, goM, goN]); first | done | rfl)), (by repeat (first | exact Le.nil | refine Le.same ?_ | refine Le.drop ?_)), (by have hz := go_inv (v := (s_3, at_v_1)) (reached_turn hsm hi_1 (by omega)) (by subst e_some_v_1 e_reached_1 e_at_v_1; first | (simp only [l_reached_from_1, f_1, cond_true, cond_false, Bool.not_true, Bool.not_false, goM, goN]; first | done | rfl) | (simp only [l_reached_from_1]; rw [f_1]; first | done | rfl) | (simp only [l_reached_from_1]; (try dsimp only at f_1); (try simp only [f_1, cond_true, cond_false, Bool.not_true, Bool.not_false, goM, goN]); first | done | rfl)); exact ⟨hz.1, hz.2⟩)⟩
  · intro r o f_2 ho hr_
    exact r.elim
  intro s_4 f_2 hi_1
  refine ds_freezeL 5 (E' := [.v ((eP PyData.int (eL (eT5 PyData.int PyData.int (eP PyData.int PyData.int) (eP PyData.int PyData.int) PyData.bool))) net), .v (.int start), .v (.bool lane), .v ((eL (eT5 PyData.int PyData.int (eP PyData.int PyData.int) (eP PyData.int PyData.int) PyData.bool)) some_v_1), .no, .v ((eL PyData.int) s_4.1), .v (.int s_4.2), .no]) rfl rfl ?_
  exact ds_retN (dn_sortI hr.units (de_v 5 (pv 5)) rfl T.b_sorted) (.inl (by subst e_some_v_1 e_reached_1; first | (simp only [m_reached_from, f_2, cond_true, cond_false, Bool.not_true, Bool.not_false, goM, goN]; first | done | rfl) | (simp only [m_reached_from]; rw [f_2]; first | done | rfl) | (simp only [m_reached_from]; (try dsimp only at f_2); (try simp only [f_2, cond_true, cond_false, Bool.not_true, Bool.not_false, goM, goN]); first | done | rfl)))
def l_ways_between_2 (k_net : (Int × (List (T5 Int Int (Int × Int) (Int × Int) Bool)))) (k_end_v : Int) (k_way : (List Int)) (k_seen : (List Int)) (s_2 : (List (List Int)) × (List ((List Int) × (List Int)))) (a_3 : Int) : Go ((List (List Int)) × (List ((List Int) × (List Int)))) Empty := (let road_1 := (gx k_net.2 a_3); (let p_1 := (bif ((decide (road_1.a = (gx k_seen (-(1 : Int))))) && (decide (road_1.b = k_end_v))) then (let found_1 := (s_2.1 ++ [(k_way ++ ([a_3] : (List Int)))]); (found_1, s_2.2)) else (let p_2 := (bif ((decide (road_1.a = (gx k_seen (-(1 : Int))))) && (!decide (road_1.b ∈ k_seen))) then (let begun_3 := (s_2.2 ++ [((k_way ++ ([a_3] : (List Int))), (k_seen ++ ([road_1.b] : (List Int))))]); begun_3) else s_2.2); (s_2.1, p_2))); (.nx (p_1.1, p_1.2))))
def l_ways_between_1 (k_net : (Int × (List (T5 Int Int (Int × Int) (Int × Int) Bool)))) (k_end_v : Int) (k_some_v : (List Int)) (s_1 : (List (List Int)) × (List ((List Int) × (List Int)))) : Go ((List (List Int)) × (List ((List Int) × (List Int)))) Empty := (let begun_2 := s_1.2.dropLast; let a_2 := s_1.2.getLastD default; (goN (forG (l_ways_between_2 k_net k_end_v a_2.1 a_2.2) k_some_v (s_1.1, begun_2)) (fun s_3 => (.nx (s_3.1, s_3.2)))))
def l_ways_between_1_c (k_net : (Int × (List (T5 Int Int (Int × Int) (Int × Int) Bool)))) (k_end_v : Int) (k_some_v : (List Int)) (s_1 : (List (List Int)) × (List ((List Int) × (List Int)))) : Bool := (!eqD s_1.2 ([] : (List ((List Int) × (List Int)))))
def m_ways_between (net : (Int × (List (T5 Int Int (Int × Int) (Int × Int) Bool)))) (start : Int) (end_v : Int) (lane : Bool) : (List (List Int)) := (let some_v_1 := (m_usable_roads net lane); (let begun_1 := ([(([] : (List Int)), ([start] : (List Int)))] : (List ((List Int) × (List Int)))); (goN (whileG (l_ways_between_1_c net end_v some_v_1) (l_ways_between_1 net end_v some_v_1) ((fun (s_1 : (List (List Int)) × (List ((List Int) × (List Int)))) => tw (s_1.1, s_1.2)) (([] : (List (List Int))), begun_1) + 1) (([] : (List (List Int))), begun_1)) (fun s_4 => (sortL s_4.1)))))
theorem wb_one (net : Int × List (T5 Int Int Fr Fr Bool)) (e : Int) (p : Pth) (s : DSt) (k : Int) : l_ways_between_2 net e p.1 p.2 s k = .nx (stp e p s (k, (gx net.2 k).a, (gx net.2 k).b)) := by
  unfold l_ways_between_2 stp
  simp only
  generalize gx net.2 k = r
  by_cases c1 : r.a = gx p.2 (-1) <;> by_cases c2 : r.b = e <;> by_cases c3 : r.b ∈ p.2 <;> simp [c1, c2, c3]
theorem ways_between_step {net : Int × List (T5 Int Int Fr Fr Bool)} {e : Int} {s0 s : DSt} {p : Pth} {k : Int} {i : Nat} (hr : 0 ≤ (gx net.2 k).b ∧ (gx net.2 k).b < 6) (h : BiI s0 p (((i : Nat) : Int)).toNat s) : ∃ s', l_ways_between_2 net e p.1 p.2 s k = .nx s' ∧ BiI s0 p ((((i + 1 : Nat)) : Int)).toNat s' :=
  ⟨_, wb_one net e p s k, h.step (q := (k, (gx net.2 k).a, (gx net.2 k).b)) hr⟩
theorem wb_turn (net : Int × List (T5 Int Int Fr Fr Bool)) (e : Int) (lane : Bool) (s : DSt) : l_ways_between_1 net e (m_usable_roads net lane) s = dfsT e (usb net.2 lane) s := by
  unfold l_ways_between_1 dfsT
  simp only
  rw [goN_nx (forG_pure (g := fun (s' : DSt) k => stp e (s.2.getLastD default) s' (k, (gx net.2 k).a, (gx net.2 k).b)) _ (fun a _ s => wb_one net e _ s a) _)]
  exact congrArg Go.nx (usb_foldB (stp e _) net.2 lane _)
theorem ways_between_turn {net : Int × List (T5 Int Int Fr Fr Bool)} {e : Int} {lane : Bool} {s : DSt} (h1 : net.2.length ≤ 13) (h2 : ∀ r ∈ net.2, (0 ≤ r.a ∧ r.a < 6) ∧ (0 ≤ r.b ∧ r.b < 6)) (hs : BgI s) (hc : ¬ s.2 = []) : ∃ s', l_ways_between_1 net e (m_usable_roads net lane) s = .nx s' ∧ BgI s' ∧ tw s' < tw s := by
  rw [wb_turn]
  exact dfs_turn (usb_us h1 fun r hr => (h2 r hr).2) hs hc
def r_ways_between (xs : List PyData) (r : Res) : Prop := ∃ (net : (Int × (List (T5 Int Int (Int × Int) (Int × Int) Bool)))) (start : Int) (end_v : Int) (lane : Bool), (net.2.length ≤ 13) ∧ (∀ r ∈ net.2, (0 ≤ r.a ∧ r.a < 6) ∧ (0 ≤ r.b ∧ r.b < 6)) ∧ (0 ≤ start ∧ start < 6) ∧ xs = [((eP PyData.int (eL (eT5 PyData.int PyData.int (eP PyData.int PyData.int) (eP PyData.int PyData.int) PyData.bool))) net), (.int start), (.int end_v), (.bool lane)] ∧ r = .ok ((oS (oL PyData.int)) (m_ways_between net start end_v lane))
abbrev N_ways_between : List Str := ["net", "start", "end", "lane", "some", "found", "begun", "way", "seen", "number", "road"]
theorem sc_ways_between : FnScope N_ways_between ["net", "start", "end", "lane"] (defScope s_ways_between) := ⟨rfl, rfl, rfl, by decide +kernel, rfl, by decide +kernel, by decide +kernel⟩
theorem ok_ways_between (F : Def K mg "ways_between" s_ways_between ["net", "start", "end", "lane"]) (T : Txt K mg A) (c_usable_roads : Cal P w K mg base "usable_roads" 2 r_usable_roads 1) : Cal P w K mg base "ways_between" 4 r_ways_between 2 := by
  refine cal_ok F sc_ways_between rfl fun fa cdv AA outer ss HH EE X hX C hr xs r hl hR => ?_
  obtain ⟨net, start, end_v, lane, pre_0, pre_1, pre_2, rfl, rfl⟩ := hR
  subst hX
  show DSs _ _ _ [.v ((eP PyData.int (eL (eT5 PyData.int PyData.int (eP PyData.int PyData.int) (eP PyData.int PyData.int) PyData.bool))) net), .v (.int start), .v (.int end_v), .v (.bool lane), .no, .no, .no, .no, .no, .no, .no] _
  have hrl := pre_0
  obtain ⟨some_v_1, e_some_v_1⟩ : ∃ z : (List Int), z = (m_usable_roads net lane) := ⟨_, rfl⟩
  refine ds_then (E' := [.v ((eP PyData.int (eL (eT5 PyData.int PyData.int (eP PyData.int PyData.int) (eP PyData.int PyData.int) PyData.bool))) net), .v (.int start), .v (.int end_v), .v (.bool lane), .v ((eL PyData.int) some_v_1), .no, .no, .no, .no, .no, .no]) (ds_set (x := ((eL PyData.int) some_v_1)) (ln 4 sc_ways_between.nd) (deC (by subst e_some_v_1; rfl) (DN.toL (f := PyData.int) (xs := (m_usable_roads net lane)) (dn_call (f := "usable_roads") (t := (oL PyData.int) (m_usable_roads net lane)) (c_usable_roads.at hr) rfl (da_cons (de_v 0 (pv 0)) (da_cons (de_v 3 (pv 3)) da_nil)) ⟨net, lane, (by first | omega | assumption | decide), rfl, rfl⟩)))) ?_
  have hsl : some_v_1.length ≤ net.2.length := e_some_v_1 ▸ usable_le
  refine ds_then (E' := [.v ((eP PyData.int (eL (eT5 PyData.int PyData.int (eP PyData.int PyData.int) (eP PyData.int PyData.int) PyData.bool))) net), .v (.int start), .v (.int end_v), .v (.bool lane), .v ((eL PyData.int) some_v_1), .o (oS (oL PyData.int) ([] : (List (List Int)))), .no, .no, .no, .no, .no]) (ds_setN (t := oS (oL PyData.int) []) (ln 5 sc_ways_between.nd) (dn_lstO dna_nil)) ?_
  obtain ⟨begun_1, e_begun_1⟩ : ∃ z : (List ((List Int) × (List Int))), z = ([(([] : (List Int)), ([start] : (List Int)))] : (List ((List Int) × (List Int)))) := ⟨_, rfl⟩
  refine ds_then (E' := [.v ((eP PyData.int (eL (eT5 PyData.int PyData.int (eP PyData.int PyData.int) (eP PyData.int PyData.int) PyData.bool))) net), .v (.int start), .v (.int end_v), .v (.bool lane), .v ((eL PyData.int) some_v_1), .o (oS (oL PyData.int) ([] : (List (List Int)))), .o (oL (eP (eL PyData.int) (eL PyData.int)) begun_1), .no, .no, .no, .no]) (ds_setN (t := oL (eP (eL PyData.int) (eL PyData.int)) begun_1) (ln 6 sc_ways_between.nd) (dnC (by subst e_begun_1; rfl) (dn_lst (da_cons (DN.toPL (f := (eL PyData.int)) (g := PyData.int) (v := (([] : (List Int)), ([start] : (List Int)))) (dn_pair (f := (eL PyData.int)) (g := PyData.int) (x := ([] : (List Int))) (ys := ([start] : (List Int))) (DN.toL (f := PyData.int) (xs := ([] : (List Int))) (dn_lst da_nil)) (dn_lst (da_cons (de_v 1 (pv 1)) da_nil)))) da_nil)))) ?_
  refine ds_whileG (fun (s_1 : (List (List Int)) × (List ((List Int) × (List Int)))) => [.v ((eP PyData.int (eL (eT5 PyData.int PyData.int (eP PyData.int PyData.int) (eP PyData.int PyData.int) PyData.bool))) net), .v (.int start), .v (.int end_v), .v (.bool lane), .v ((eL PyData.int) some_v_1), .o (oS (oL PyData.int) s_1.1), .o (oL (eP (eL PyData.int) (eL PyData.int)) s_1.2), .no, .no, .no, .no]) (l_ways_between_1_c net end_v some_v_1) (l_ways_between_1 net end_v some_v_1) (fun (s_1 : (List (List Int)) × (List ((List Int) × (List Int)))) => tw (s_1.1, s_1.2)) (([] : (List (List Int))), begun_1) (fun (s_1 : (List (List Int)) × (List ((List Int) × (List Int)))) => BgI (s_1.1, s_1.2)) (fun (s_1 : (List (List Int)) × (List ((List Int) × (List Int)))) => BgI (s_1.1, s_1.2)) (fun (_ : Empty) _ => False) C (by repeat (first | exact Le.nil | refine Le.same ?_ | refine Le.drop ?_)) (by subst e_begun_1; exact bgI_0 pre_2) ?_ ?_ (fun _ h _ => h) ?_ ?_
  · intro s_1 hi_1
    exact (dt_borrowS 6 (dat_L (eP (eL PyData.int) (eL PyData.int))) rfl (dt_neU (x := s_1.2) (y := ([] : (List ((List Int) × (List Int))))) hr.units (eqE_L (eqE_P (eqE_L eqE_int) (eqE_L eqE_int))) (de_v 6 (pv 6)) (DN.toL (f := (eP (eL PyData.int) (eL PyData.int))) (xs := ([] : (List ((List Int) × (List Int))))) (dn_lst da_nil))))
  · intro s_1 hi_1 c_1
    have q_c_1 : (!eqD s_1.2 ([] : (List ((List Int) × (List Int))))) = true := c_1
    try simp only [eqD_t, eqD_f, decide_eq_true_eq, decide_eq_false_iff_not, Bool.not_eq_true', Bool.not_eq_false', Bool.and_eq_true, Bool.or_eq_true, Bool.and_eq_false_iff, Bool.or_eq_false_iff, Bool.not_true, Bool.not_false, Bool.not_not, Decidable.not_not] at q_c_1
    obtain ⟨begun_2, a_2, e_begun_2⟩ : ∃ (u : (List ((List Int) × (List Int)))) (z : ((List Int) × (List Int))), s_1.2 = u ++ [z] := (by exact snoc_of (by assumption))
    rw [e_begun_2]
    refine ds_then (E' := [.v ((eP PyData.int (eL (eT5 PyData.int PyData.int (eP PyData.int PyData.int) (eP PyData.int PyData.int) PyData.bool))) net), .v (.int start), .v (.int end_v), .v (.bool lane), .v ((eL PyData.int) some_v_1), .o (oS (oL PyData.int) s_1.1), .o (oL (eP (eL PyData.int) (eL PyData.int)) begun_2), .v ((eL PyData.int) a_2.1), .v ((eL PyData.int) a_2.2), .no, .no]) (ds_pop (f := (eP (eL PyData.int) (eL PyData.int))) (xs := begun_2) (v := a_2) (fun _ => pv 6) (tg_two rfl (tg_name (ln 7 sc_ways_between.nd)) (tg_name (ln 8 sc_ways_between.nd))) rfl) ?_
    refine ds_forG (items := some_v_1) (ea := PyData.int) (fun (s_2 : (List (List Int)) × (List ((List Int) × (List Int)))) => [.v ((eP PyData.int (eL (eT5 PyData.int PyData.int (eP PyData.int PyData.int) (eP PyData.int PyData.int) PyData.bool))) net), .v (.int start), .v (.int end_v), .v (.bool lane), .v ((eL PyData.int) some_v_1), .o (oS (oL PyData.int) s_2.1), .o (oL (eP (eL PyData.int) (eL PyData.int)) s_2.2), .v ((eL PyData.int) a_2.1), .v ((eL PyData.int) a_2.2), .no, .no]) (l_ways_between_2 net end_v a_2.1 a_2.2) (s_1.1, begun_2) (fun (i_2 : Nat) (s_2 : (List (List Int)) × (List ((List Int) × (List Int)))) => BiI (s_1.1, begun_2) a_2 (i_2 : Int).toNat (s_2.1, s_2.2)) (fun (s_2 : (List (List Int)) × (List ((List Int) × (List Int)))) => BiI (s_1.1, begun_2) a_2 ((some_v_1).length : Int).toNat (s_2.1, s_2.2)) (fun (_ : Empty) _ => False) C (di_list (de_v 4 (pv 4))) (tg_name (ln 9 sc_ways_between.nd)) (by repeat (first | exact Le.nil | refine Le.same ?_ | refine Le.drop ?_)) (by exact biI_0 (by rw [← e_begun_2]; exact hi_1)) ?_ (fun _ h => h) ?_ ?_
    · intro i_2 a_3 s_2 ha_2 hi_2
      refine ⟨[.v ((eP PyData.int (eL (eT5 PyData.int PyData.int (eP PyData.int PyData.int) (eP PyData.int PyData.int) PyData.bool))) net), .v (.int start), .v (.int end_v), .v (.bool lane), .v ((eL PyData.int) some_v_1), .o (oS (oL PyData.int) s_2.1), .o (oL (eP (eL PyData.int) (eL PyData.int)) s_2.2), .v ((eL PyData.int) a_2.1), .v ((eL PyData.int) a_2.2), .v (.int a_3), .no], rfl, ?_⟩
      have hpz := hi_2
      have hui := usable_mem (List.mem_of_getElem? (e_some_v_1 ▸ ha_2))
      have hr := (pre_1 _ (gx_mem (xs := net.2) (i := a_3) (ix_of hui))).2
      have hli := get_lt ha_2
      obtain ⟨road_1, e_road_1⟩ : ∃ z : (T5 Int Int (Int × Int) (Int × Int) Bool), z = (gx net.2 a_3) := ⟨_, rfl⟩
      refine ds_then (E' := [.v ((eP PyData.int (eL (eT5 PyData.int PyData.int (eP PyData.int PyData.int) (eP PyData.int PyData.int) PyData.bool))) net), .v (.int start), .v (.int end_v), .v (.bool lane), .v ((eL PyData.int) some_v_1), .o (oS (oL PyData.int) s_2.1), .o (oL (eP (eL PyData.int) (eL PyData.int)) s_2.2), .v ((eL PyData.int) a_2.1), .v ((eL PyData.int) a_2.2), .v (.int a_3), .v ((eT5 PyData.int PyData.int (eP PyData.int PyData.int) (eP PyData.int PyData.int) PyData.bool) road_1)]) (ds_set (x := ((eT5 PyData.int PyData.int (eP PyData.int PyData.int) (eP PyData.int PyData.int) PyData.bool) road_1)) (ln 10 sc_ways_between.nd) (deC (by subst e_road_1; rfl) (de_ixL (f := (eT5 PyData.int PyData.int (eP PyData.int PyData.int) (eP PyData.int PyData.int) PyData.bool)) (xs := net.2) (i := a_3) (de_it (de_v 0 (pv 0)) de_int) (de_v 9 (pv 9)) (by first | exact ⟨by have := hpz.pp.pos; omega, by have := hpz.pp.pos; omega⟩ | (first | exact ⟨by omega, by omega⟩ | exact inR_mod (by omega) | (unfold inR; simp only [List.length_map, List.length_append, List.length_cons, List.length_nil, List.length_replicate, rng_len, sx_len]; omega)))))) ?_
      obtain ⟨p_1, e_p_1⟩ : ∃ z : (List (List Int)) × (List ((List Int) × (List Int))), z = (bif ((decide (road_1.a = (gx a_2.2 (-(1 : Int))))) && (decide (road_1.b = end_v))) then (let found_1 := (s_2.1 ++ [(a_2.1 ++ ([a_3] : (List Int)))]); (found_1, s_2.2)) else (let p_2 := (bif ((decide (road_1.a = (gx a_2.2 (-(1 : Int))))) && (!decide (road_1.b ∈ a_2.2))) then (let begun_3 := (s_2.2 ++ [((a_2.1 ++ ([a_3] : (List Int))), (a_2.2 ++ ([road_1.b] : (List Int))))]); begun_3) else s_2.2); (s_2.1, p_2))) := ⟨_, rfl⟩
      try dsimp only at e_p_1
      refine ds_ifl (E' := [.v ((eP PyData.int (eL (eT5 PyData.int PyData.int (eP PyData.int PyData.int) (eP PyData.int PyData.int) PyData.bool))) net), .v (.int start), .v (.int end_v), .v (.bool lane), .v ((eL PyData.int) some_v_1), .o (oS (oL PyData.int) p_1.1), .o (oL (eP (eL PyData.int) (eL PyData.int)) p_1.2), .v ((eL PyData.int) a_2.1), .v ((eL PyData.int) a_2.2), .v (.int a_3), .v ((eT5 PyData.int PyData.int (eP PyData.int PyData.int) (eP PyData.int PyData.int) PyData.bool) road_1)]) (DW.toT (dw_and (dt_eqI (de_it (de_v 10 (pv 10)) de_int) (de_ixL (de_v 8 (pv 8)) (de_neg de_int) (by first | exact ⟨by have := hpz.pp.pos; omega, by have := hpz.pp.pos; omega⟩ | (first | exact ⟨by omega, by omega⟩ | exact inR_mod (by omega) | (unfold inR; simp only [List.length_map, List.length_append, List.length_cons, List.length_nil, List.length_replicate, rng_len, sx_len]; omega))))) (fun _ => (dw_and1 (dt_eqI (de_it (de_v 10 (pv 10)) de_int) (de_v 2 (pv 2))))))) (fun c_2 => ?_) (fun c_2 => ?_) ?_
      · have q_c_2 := c_2
        try simp only [eqD_t, eqD_f, decide_eq_true_eq, decide_eq_false_iff_not, Bool.not_eq_true', Bool.not_eq_false', Bool.and_eq_true, Bool.or_eq_true, Bool.and_eq_false_iff, Bool.or_eq_false_iff, Bool.not_true, Bool.not_false, Bool.not_not, Decidable.not_not] at q_c_2
        obtain ⟨found_1, e_found_1⟩ : ∃ z : (List (List Int)), z = (s_2.1 ++ [(a_2.1 ++ ([a_3] : (List Int)))]) := ⟨_, rfl⟩
        refine ds_then (E' := [.v ((eP PyData.int (eL (eT5 PyData.int PyData.int (eP PyData.int PyData.int) (eP PyData.int PyData.int) PyData.bool))) net), .v (.int start), .v (.int end_v), .v (.bool lane), .v ((eL PyData.int) some_v_1), .o (oS (oL PyData.int) found_1), .o (oL (eP (eL PyData.int) (eL PyData.int)) s_2.2), .v ((eL PyData.int) a_2.1), .v ((eL PyData.int) a_2.2), .v (.int a_3), .v ((eT5 PyData.int PyData.int (eP PyData.int PyData.int) (eP PyData.int PyData.int) PyData.bool) road_1)]) (ds_appendS (g := oL PyData.int) (y := (a_2.1 ++ ([a_3] : (List Int)))) (v := s_2.1) 5 (fun _ => pv 5) (dn_catL (de_v 7 (pv 7)) (DN.toL (f := PyData.int) (xs := ([a_3] : (List Int))) (dn_lst (da_cons (de_v 9 (pv 9)) da_nil))) (by rw [sizeLine_eq]; first | omega | (have h5 := hpz.pp.le; have h6 := hpz.pp.ln; simp only [List.length_cons, List.length_nil]; omega) | (simp only [List.length_append, List.length_cons, List.length_nil, List.length_map, List.length_replicate]; omega))) rfl (by rw [sizeLine_eq]; (first | exact Nat.lt_of_le_of_lt (hpz.l1 (by omega)).1 (by decide) | exact Nat.lt_of_le_of_lt (hpz.l1 (by omega)).2 (by decide))) (by subst e_found_1; rfl)) ?_
        exact ds_nil (by subst e_p_1 e_found_1; (try simp only [e_begun_2, c_2, cond_true, cond_false, Bool.not_true, Bool.not_false, goM, goN]); (show Le _ _); repeat (first | exact Le.nil | refine Le.same ?_ | refine Le.drop ?_))
      · have q_c_2 := c_2
        try simp only [eqD_t, eqD_f, decide_eq_true_eq, decide_eq_false_iff_not, Bool.not_eq_true', Bool.not_eq_false', Bool.and_eq_true, Bool.or_eq_true, Bool.and_eq_false_iff, Bool.or_eq_false_iff, Bool.not_true, Bool.not_false, Bool.not_not, Decidable.not_not] at q_c_2
        obtain ⟨p_2, e_p_2⟩ : ∃ z : (List ((List Int) × (List Int))), z = (bif ((decide (road_1.a = (gx a_2.2 (-(1 : Int))))) && (!decide (road_1.b ∈ a_2.2))) then (let begun_3 := (s_2.2 ++ [((a_2.1 ++ ([a_3] : (List Int))), (a_2.2 ++ ([road_1.b] : (List Int))))]); begun_3) else s_2.2) := ⟨_, rfl⟩
        try dsimp only at e_p_2
        refine ds_ifl (E' := [.v ((eP PyData.int (eL (eT5 PyData.int PyData.int (eP PyData.int PyData.int) (eP PyData.int PyData.int) PyData.bool))) net), .v (.int start), .v (.int end_v), .v (.bool lane), .v ((eL PyData.int) some_v_1), .o (oS (oL PyData.int) s_2.1), .o (oL (eP (eL PyData.int) (eL PyData.int)) p_2), .v ((eL PyData.int) a_2.1), .v ((eL PyData.int) a_2.2), .v (.int a_3), .v ((eT5 PyData.int PyData.int (eP PyData.int PyData.int) (eP PyData.int PyData.int) PyData.bool) road_1)]) (DW.toT (dw_and (dt_eqI (de_it (de_v 10 (pv 10)) de_int) (de_ixL (de_v 8 (pv 8)) (de_neg de_int) (by first | exact ⟨by have := hpz.pp.pos; omega, by have := hpz.pp.pos; omega⟩ | (first | exact ⟨by omega, by omega⟩ | exact inR_mod (by omega) | (unfold inR; simp only [List.length_map, List.length_append, List.length_cons, List.length_nil, List.length_replicate, rng_len, sx_len]; omega))))) (fun _ => (dw_and1 (dt_niI (de_it (de_v 10 (pv 10)) de_int) (de_v 8 (pv 8))))))) (fun c_3 => ?_) (fun c_3 => ?_) ?_
        · have q_c_3 := c_3
          try simp only [eqD_t, eqD_f, decide_eq_true_eq, decide_eq_false_iff_not, Bool.not_eq_true', Bool.not_eq_false', Bool.and_eq_true, Bool.or_eq_true, Bool.and_eq_false_iff, Bool.or_eq_false_iff, Bool.not_true, Bool.not_false, Bool.not_not, Decidable.not_not] at q_c_3
          obtain ⟨begun_3, e_begun_3⟩ : ∃ z : (List ((List Int) × (List Int))), z = (s_2.2 ++ [((a_2.1 ++ ([a_3] : (List Int))), (a_2.2 ++ ([road_1.b] : (List Int))))]) := ⟨_, rfl⟩
          refine ds_then (E' := [.v ((eP PyData.int (eL (eT5 PyData.int PyData.int (eP PyData.int PyData.int) (eP PyData.int PyData.int) PyData.bool))) net), .v (.int start), .v (.int end_v), .v (.bool lane), .v ((eL PyData.int) some_v_1), .o (oS (oL PyData.int) s_2.1), .o (oL (eP (eL PyData.int) (eL PyData.int)) begun_3), .v ((eL PyData.int) a_2.1), .v ((eL PyData.int) a_2.2), .v (.int a_3), .v ((eT5 PyData.int PyData.int (eP PyData.int PyData.int) (eP PyData.int PyData.int) PyData.bool) road_1)]) (ds_appendL (f := (eP (eL PyData.int) (eL PyData.int))) (v := ((a_2.1 ++ ([a_3] : (List Int))), (a_2.2 ++ ([road_1.b] : (List Int))))) (xs := s_2.2) (fun _ => pv 6) (DN.toPL (f := (eL PyData.int)) (g := PyData.int) (v := ((a_2.1 ++ ([a_3] : (List Int))), (a_2.2 ++ ([road_1.b] : (List Int))))) (dn_pair (f := (eL PyData.int)) (g := PyData.int) (x := (a_2.1 ++ ([a_3] : (List Int)))) (ys := (a_2.2 ++ ([road_1.b] : (List Int)))) (DN.toL (f := PyData.int) (xs := (a_2.1 ++ ([a_3] : (List Int)))) (dn_catL (de_v 7 (pv 7)) (DN.toL (f := PyData.int) (xs := ([a_3] : (List Int))) (dn_lst (da_cons (de_v 9 (pv 9)) da_nil))) (by rw [sizeLine_eq]; first | omega | (have h5 := hpz.pp.le; have h6 := hpz.pp.ln; simp only [List.length_cons, List.length_nil]; omega) | (simp only [List.length_append, List.length_cons, List.length_nil, List.length_map, List.length_replicate]; omega)))) (dn_catL (de_v 8 (pv 8)) (DN.toL (f := PyData.int) (xs := ([road_1.b] : (List Int))) (dn_lst (da_cons (de_it (de_v 10 (pv 10)) de_int) da_nil))) (by rw [sizeLine_eq]; first | omega | (have h5 := hpz.pp.le; have h6 := hpz.pp.ln; simp only [List.length_cons, List.length_nil]; omega) | (simp only [List.length_append, List.length_cons, List.length_nil, List.length_map, List.length_replicate]; omega))))) rfl (by rw [sizeLine_eq]; (first | exact Nat.lt_of_le_of_lt (hpz.l1 (by omega)).1 (by decide) | exact Nat.lt_of_le_of_lt (hpz.l1 (by omega)).2 (by decide))) (by subst e_begun_3; rfl)) ?_
          exact ds_nil (by subst e_p_2 e_begun_3; (try simp only [e_begun_2, c_2, c_3, cond_true, cond_false, Bool.not_true, Bool.not_false, goM, goN]); (show Le _ _); repeat (first | exact Le.nil | refine Le.same ?_ | refine Le.drop ?_))
        · have q_c_3 := c_3
          try simp only [eqD_t, eqD_f, decide_eq_true_eq, decide_eq_false_iff_not, Bool.not_eq_true', Bool.not_eq_false', Bool.and_eq_true, Bool.or_eq_true, Bool.and_eq_false_iff, Bool.or_eq_false_iff, Bool.not_true, Bool.not_false, Bool.not_not, Decidable.not_not] at q_c_3
          exact ds_nil (by subst e_p_2; (try simp only [e_begun_2, c_2, c_3, cond_true, cond_false, Bool.not_true, Bool.not_false, goM, goN]); (show Le _ _); repeat (first | exact Le.nil | refine Le.same ?_ | refine Le.drop ?_))
        exact ds_nil (by subst e_p_1 e_p_2; (try simp only [e_begun_2, c_2, cond_true, cond_false, Bool.not_true, Bool.not_false, goM, goN]); (show Le _ _); repeat (first | exact Le.nil | refine Le.same ?_ | refine Le.drop ?_))
      exact ds_nil ⟨(p_1.1, p_1.2), (by subst e_some_v_1 e_begun_1 e_road_1 e_p_1; first | (simp only [l_ways_between_2, e_begun_2, cond_true, cond_false, Bool.not_true, Bool.not_false, goM, goN, List.dropLast_concat, List.getLastD_concat]; first | done | rfl) | (simp only [l_ways_between_2]; rw [e_begun_2]; first | done | rfl) | (simp only [l_ways_between_2]; (try dsimp only at e_begun_2); (try simp only [e_begun_2, List.dropLast_concat, List.getLastD_concat, cond_true, cond_false, Bool.not_true, Bool.not_false, goM, goN]); first | done | rfl)), (by repeat (first | exact Le.nil | refine Le.same ?_ | refine Le.drop ?_)), (by have hz := go_inv (v := (p_1.1, p_1.2)) (ways_between_step (p := a_2) hr hi_2) (by subst e_some_v_1 e_begun_1 e_road_1 e_p_1; first | (simp only [l_ways_between_2, e_begun_2, cond_true, cond_false, Bool.not_true, Bool.not_false, goM, goN, List.dropLast_concat, List.getLastD_concat]; first | done | rfl) | (simp only [l_ways_between_2]; rw [e_begun_2]; first | done | rfl) | (simp only [l_ways_between_2]; (try dsimp only at e_begun_2); (try simp only [e_begun_2, List.dropLast_concat, List.getLastD_concat, cond_true, cond_false, Bool.not_true, Bool.not_false, goM, goN]); first | done | rfl)); exact hz)⟩
    · intro r o f_1 ho hr_
      exact r.elim
    intro s_3 f_1 hi_2
    exact ds_nil ⟨(s_3.1, s_3.2), (by subst e_some_v_1 e_begun_1; first | (simp only [l_ways_between_1, e_begun_2, f_1, cond_true, cond_false, Bool.not_true, Bool.not_false, goM, goN, List.dropLast_concat, List.getLastD_concat]; first | done | rfl) | (simp only [l_ways_between_1]; rw [e_begun_2, f_1]; first | done | rfl) | (simp only [l_ways_between_1]; (try dsimp only at e_begun_2); (try dsimp only at f_1); (try simp only [e_begun_2, List.dropLast_concat, List.getLastD_concat, cond_true, cond_false, Bool.not_true, Bool.not_false, goM, goN]); (try simp only [f_1, List.dropLast_concat, List.getLastD_concat, cond_true, cond_false, Bool.not_true, Bool.not_false, goM, goN]); first | done | rfl)), (by repeat (first | exact Le.nil | refine Le.same ?_ | refine Le.drop ?_)), (by have hz := go_inv (v := (s_3.1, s_3.2)) (ways_between_turn (net := net) (e := end_v) (lane := lane) pre_0 pre_1 hi_1 (by assumption)) (by subst e_some_v_1 e_begun_1; first | (simp only [l_ways_between_1, e_begun_2, f_1, cond_true, cond_false, Bool.not_true, Bool.not_false, goM, goN, List.dropLast_concat, List.getLastD_concat]; first | done | rfl) | (simp only [l_ways_between_1]; rw [e_begun_2, f_1]; first | done | rfl) | (simp only [l_ways_between_1]; (try dsimp only at e_begun_2); (try dsimp only at f_1); (try simp only [e_begun_2, List.dropLast_concat, List.getLastD_concat, cond_true, cond_false, Bool.not_true, Bool.not_false, goM, goN]); (try simp only [f_1, List.dropLast_concat, List.getLastD_concat, cond_true, cond_false, Bool.not_true, Bool.not_false, goM, goN]); first | done | rfl)); exact ⟨hz.1, by rw [← e_begun_2]; exact hz.2⟩)⟩
  · intro r o f_2 ho hr_
    exact r.elim
  intro s_4 f_2 hi_1
  exact ds_retSortL hr.units (pv 5) rfl rfl T.b_sorted (.inl (by subst e_some_v_1 e_begun_1; first | (simp only [m_ways_between, f_2, cond_true, cond_false, Bool.not_true, Bool.not_false, goM, goN]; first | done | rfl) | (simp only [m_ways_between]; rw [f_2]; first | done | rfl) | (simp only [m_ways_between]; (try dsimp only at f_2); (try simp only [f_2, cond_true, cond_false, Bool.not_true, Bool.not_false, goM, goN]); first | done | rfl)))
theorem ways_between_eq (net : Int × List (T5 Int Int Fr Fr Bool)) (s e : Int) (lane : Bool) : m_ways_between net s e lane = dfs (usb net.2 lane) s e := by
  unfold m_ways_between dfs
  simp only
  have e1 : l_ways_between_1_c net e (m_usable_roads net lane) = dfsC := funext fun s => by
    unfold l_ways_between_1_c dfsC
    by_cases c : s.2 = [] <;> simp [eqD, c]
  have e2 : l_ways_between_1 net e (m_usable_roads net lane) = dfsT e (usb net.2 lane) := funext fun s => wb_turn net e lane s
  rw [e1, e2]
def m_ask_way (net : (Int × (List (T5 Int Int (Int × Int) (Int × Int) Bool)))) (start : Int) (end_v : Int) (lane : Bool) (number : Int) : Except Er Unit := (let reached_1 := (m_reached_from net start lane); (bif (!decide (end_v ∈ reached_1)) then (.error ⟨4, number, reached_1⟩) else (.ok ())))
def r_ask_way (A : Nat → Addr) (xs : List PyData) (r : Res) : Prop := ∃ (net : (Int × (List (T5 Int Int (Int × Int) (Int × Int) Bool)))) (start : Int) (end_v : Int) (lane : Bool) (number : Int), (net.2.length ≤ 13) ∧ (∀ r ∈ net.2, (0 ≤ r.a ∧ r.a < 6) ∧ (0 ≤ r.b ∧ r.b < 6)) ∧ (0 ≤ start ∧ start < 6) ∧ xs = [((eP PyData.int (eL (eT5 PyData.int PyData.int (eP PyData.int PyData.int) (eP PyData.int PyData.int) PyData.bool))) net), (.int start), (.int end_v), (.bool lane), (.int number)] ∧ r = resE A eU (m_ask_way net start end_v lane number)
abbrev N_ask_way : List Str := ["net", "start", "end", "lane", "number", "reached"]
theorem sc_ask_way : FnScope N_ask_way ["net", "start", "end", "lane", "number"] (defScope s_ask_way) := ⟨rfl, rfl, rfl, by decide +kernel, rfl, by decide +kernel, by decide +kernel⟩
theorem ok_ask_way (F : Def K mg "ask_way" s_ask_way ["net", "start", "end", "lane", "number"]) (T : Txt K mg A) (c_NoWay : IniC P w K mg base "NoWay" (A 4) (spNW K (A 4))) (c_reached_from : Cal P w K mg base "reached_from" 3 r_reached_from 2) : Cal P w K mg base "ask_way" 5 (r_ask_way A) 4 := by
  refine cal_ok F sc_ask_way rfl fun fa cdv AA outer ss HH EE X hX C hr xs r hl hR => ?_
  obtain ⟨net, start, end_v, lane, number, pre_0, pre_1, pre_2, rfl, rfl⟩ := hR
  subst hX
  show DSs _ _ _ [.v ((eP PyData.int (eL (eT5 PyData.int PyData.int (eP PyData.int PyData.int) (eP PyData.int PyData.int) PyData.bool))) net), .v (.int start), .v (.int end_v), .v (.bool lane), .v (.int number), .no] _
  obtain ⟨reached_1, e_reached_1⟩ : ∃ z : (List Int), z = (m_reached_from net start lane) := ⟨_, rfl⟩
  refine ds_then (E' := [.v ((eP PyData.int (eL (eT5 PyData.int PyData.int (eP PyData.int PyData.int) (eP PyData.int PyData.int) PyData.bool))) net), .v (.int start), .v (.int end_v), .v (.bool lane), .v (.int number), .v ((eL PyData.int) reached_1)]) (ds_set (x := ((eL PyData.int) reached_1)) (ln 5 sc_ask_way.nd) (deC (by subst e_reached_1; rfl) (DN.toL (f := PyData.int) (xs := (m_reached_from net start lane)) (dn_call (f := "reached_from") (t := (oL PyData.int) (m_reached_from net start lane)) (c_reached_from.at hr) rfl (da_cons (de_v 0 (pv 0)) (da_cons (de_v 1 (pv 1)) (da_cons (de_v 3 (pv 3)) da_nil))) ⟨net, start, lane, (by first | omega | assumption | decide), (by first | omega | assumption | decide), (by first | omega | assumption | decide), rfl, rfl⟩)))) ?_
  refine ds_ifr (dt_niI (de_v 2 (pv 2)) (de_v 5 (pv 5))) (fun c_1 => ?_) (fun c_1 => ?_)
  · have q_c_1 := c_1
    try simp only [eqD_t, eqD_f, decide_eq_true_eq, decide_eq_false_iff_not, Bool.not_eq_true', Bool.not_eq_false', Bool.and_eq_true, Bool.or_eq_true, Bool.and_eq_false_iff, Bool.or_eq_false_iff, Bool.not_true, Bool.not_false, Bool.not_not, Decidable.not_not] at q_c_1
    exact ds_raiseW C c_NoWay (hr.mono (by decide)) rfl (da_cons (de_v 4 (pv 4)) (da_cons (de_v 5 (pv 5)) da_nil)) (by subst e_reached_1; first | (simp only [m_ask_way, resE, resEO, fin, c_1, cond_true, cond_false, Bool.not_true, Bool.not_false, goM, goN]; first | done | rfl) | (simp only [m_ask_way, resE, resEO, fin]; rw [c_1]; first | done | rfl) | (simp only [m_ask_way, resE, resEO, fin]; (try dsimp only at c_1); (try simp only [c_1, cond_true, cond_false, Bool.not_true, Bool.not_false, goM, goN]); first | done | rfl))
  have q_c_1 := c_1
  try simp only [eqD_t, eqD_f, decide_eq_true_eq, decide_eq_false_iff_not, Bool.not_eq_true', Bool.not_eq_false', Bool.and_eq_true, Bool.or_eq_true, Bool.and_eq_false_iff, Bool.or_eq_false_iff, Bool.not_true, Bool.not_false, Bool.not_not, Decidable.not_not] at q_c_1
  exact ds_nil (by subst e_reached_1; first | (simp only [m_ask_way, resE, fin, c_1, cond_true, cond_false, Bool.not_true, Bool.not_false, goM, goN]; first | done | rfl) | (simp only [m_ask_way, resE, fin]; rw [c_1]; first | done | rfl) | (simp only [m_ask_way, resE, fin]; (try dsimp only at c_1); (try simp only [c_1, cond_true, cond_false, Bool.not_true, Bool.not_false, goM, goN]); first | done | rfl))
theorem ask_is (net : Int × List Rd) (s e : Int) (lane : Bool) (n : Int) : m_ask_way net s e lane n = if e ∈ m_reached_from net s lane then .ok () else .error ⟨4, n, m_reached_from net s lane⟩ := by
  unfold m_ask_way
  dsimp only
  by_cases c : e ∈ m_reached_from net s lane
  · rw [if_pos c, decide_eq_true c]; rfl
  · rw [if_neg c, decide_eq_false c]; rfl
def m_wish_fits (wish : (T4 Int Int (Int × Int) Bool)) (many : Int) : Bool := (bif ((!decide ((tlen 4) = (4 : Int))) || (!(m_two_places (.int wish.a) (.int wish.b) many))) then false else ((m_is_fraction ((eP PyData.int PyData.int) wish.c)) && ((decide ((0 : Int) < wish.c.1)) && (isBool (.bool wish.d)))))
def r_wish_fits (xs : List PyData) (r : Res) : Prop := ∃ (wish : (T4 Int Int (Int × Int) Bool)) (many : Int), xs = [((eT4 PyData.int PyData.int (eP PyData.int PyData.int) PyData.bool) wish), (.int many)] ∧ r = .v (.bool (m_wish_fits wish many))
abbrev N_wish_fits : List Str := ["wish", "many"]
theorem sc_wish_fits : FnScope N_wish_fits ["wish", "many"] (defScope s_wish_fits) := ⟨rfl, rfl, rfl, by decide +kernel, rfl, by decide +kernel, by decide +kernel⟩
theorem ok_wish_fits (F : Def K mg "wish_fits" s_wish_fits ["wish", "many"]) (T : Txt K mg A) (c_is_fraction : Cal P w K mg base "is_fraction" 1 r_is_fraction 2) (c_two_places : Cal P w K mg base "two_places" 3 r_two_places 3) : Cal P w K mg base "wish_fits" 2 r_wish_fits 4 := by
  refine cal_ok F sc_wish_fits rfl fun fa cdv AA outer ss HH EE X hX C hr xs r hl hR => ?_
  obtain ⟨wish, many, rfl, rfl⟩ := hR
  subst hX
  show DSs _ _ _ [.v ((eT4 PyData.int PyData.int (eP PyData.int PyData.int) PyData.bool) wish), .v (.int many)] _
  refine ds_ifr (DW.toT (dw_or (dt_neI (de_lenT4 (de_v 0 (pv 0)) rfl T.b_len) de_int) (fun _ => (dw_or1 (dt_not (dt_val (de_call (f := "two_places") (c_two_places.at hr) rfl (da_cons (de_it (de_v 0 (pv 0)) de_int) (da_cons (de_it (de_v 0 (pv 0)) de_int) (da_cons (de_v 1 (pv 1)) da_nil))) ⟨(.int wish.a), (.int wish.b), many, rfl, rfl⟩))))))) (fun c_1 => ?_) (fun c_1 => ?_)
  · have q_c_1 := c_1
    try simp only [eqD_t, eqD_f, decide_eq_true_eq, decide_eq_false_iff_not, Bool.not_eq_true', Bool.not_eq_false', Bool.and_eq_true, Bool.or_eq_true, Bool.and_eq_false_iff, Bool.or_eq_false_iff, Bool.not_true, Bool.not_false, Bool.not_not, Decidable.not_not] at q_c_1
    exact ds_retD de_bl (.inl (by first | (simp only [m_wish_fits, c_1, cond_true, cond_false, Bool.not_true, Bool.not_false, goM, goN]; first | done | rfl) | (simp only [m_wish_fits]; rw [c_1]; first | done | rfl) | (simp only [m_wish_fits]; (try dsimp only at c_1); (try simp only [c_1, cond_true, cond_false, Bool.not_true, Bool.not_false, goM, goN]); first | done | rfl)))
  have q_c_1 := c_1
  try simp only [eqD_t, eqD_f, decide_eq_true_eq, decide_eq_false_iff_not, Bool.not_eq_true', Bool.not_eq_false', Bool.and_eq_true, Bool.or_eq_true, Bool.and_eq_false_iff, Bool.or_eq_false_iff, Bool.not_true, Bool.not_false, Bool.not_not, Decidable.not_not] at q_c_1
  exact ds_retD (de_and (de_call (f := "is_fraction") (c_is_fraction.at hr) rfl (da_cons (de_it (de_v 0 (pv 0)) de_int) da_nil) ⟨((eP PyData.int PyData.int) wish.c), rfl, rfl⟩) (fun _ => (de_and (de_gt (de_it (de_it (de_v 0 (pv 0)) de_int) de_int) de_int) (fun _ => (de_one (de_isi (kit_bool (.bool wish.d)) (de_it (de_v 0 (pv 0)) de_int) rfl T.b_isinstance rfl T.b_bool)))))) (.inl (by first | (simp only [m_wish_fits, c_1, cond_true, cond_false, Bool.not_true, Bool.not_false, goM, goN]; first | done | rfl) | (simp only [m_wish_fits]; rw [c_1]; first | done | rfl) | (simp only [m_wish_fits]; (try dsimp only at c_1); (try simp only [c_1, cond_true, cond_false, Bool.not_true, Bool.not_false, goM, goN]); first | done | rfl)))
def m_ways_of (net : (Int × (List (T5 Int Int (Int × Int) (Int × Int) Bool)))) (wish : (T4 Int Int (Int × Int) Bool)) : (List (List Int)) := (m_ways_between net wish.a wish.b wish.d)
def r_ways_of (xs : List PyData) (r : Res) : Prop := ∃ (net : (Int × (List (T5 Int Int (Int × Int) (Int × Int) Bool)))) (wish : (T4 Int Int (Int × Int) Bool)), (net.2.length ≤ 13) ∧ (∀ r ∈ net.2, (0 ≤ r.a ∧ r.a < 6) ∧ (0 ≤ r.b ∧ r.b < 6)) ∧ (0 ≤ wish.a ∧ wish.a < 6) ∧ xs = [((eP PyData.int (eL (eT5 PyData.int PyData.int (eP PyData.int PyData.int) (eP PyData.int PyData.int) PyData.bool))) net), ((eT4 PyData.int PyData.int (eP PyData.int PyData.int) PyData.bool) wish)] ∧ r = .ok ((oS (oL PyData.int)) (m_ways_of net wish))
abbrev N_ways_of : List Str := ["net", "wish"]
theorem sc_ways_of : FnScope N_ways_of ["net", "wish"] (defScope s_ways_of) := ⟨rfl, rfl, rfl, by decide +kernel, rfl, by decide +kernel, by decide +kernel⟩
theorem ok_ways_of (F : Def K mg "ways_of" s_ways_of ["net", "wish"]) (T : Txt K mg A) (c_ways_between : Cal P w K mg base "ways_between" 4 r_ways_between 2) : Cal P w K mg base "ways_of" 2 r_ways_of 3 := by
  refine cal_ok F sc_ways_of rfl fun fa cdv AA outer ss HH EE X hX C hr xs r hl hR => ?_
  obtain ⟨net, wish, pre_0, pre_1, pre_2, rfl, rfl⟩ := hR
  subst hX
  show DSs _ _ _ [.v ((eP PyData.int (eL (eT5 PyData.int PyData.int (eP PyData.int PyData.int) (eP PyData.int PyData.int) PyData.bool))) net), .v ((eT4 PyData.int PyData.int (eP PyData.int PyData.int) PyData.bool) wish)] _
  exact ds_retN (dn_call (f := "ways_between") (t := (oS (oL PyData.int)) (m_ways_between net wish.a wish.b wish.d)) (c_ways_between.at hr) rfl (da_cons (de_v 0 (pv 0)) (da_cons (de_it (de_v 1 (pv 1)) de_int) (da_cons (de_it (de_v 1 (pv 1)) de_int) (da_cons (de_it (de_v 1 (pv 1)) de_int) da_nil)))) ⟨net, wish.a, wish.b, wish.d, (by first | omega | assumption | decide), (by first | omega | assumption | decide), (by first | omega | assumption | decide), rfl, rfl⟩) (.inl (by simp only [m_ways_of, cond_true, cond_false, Bool.not_true, Bool.not_false, goM, goN]; try rfl))
def l_made_wishes_1 (k_net : (Int × (List (T5 Int Int (Int × Int) (Int × Int) Bool)))) (s_1 : Unit) (a_1 : (T4 Int Int (Int × Int) Bool)) : Go (Unit) (Except Er (List (T4 Int Int (Int × Int) Bool))) := (bif (!(m_wish_fits a_1 k_net.1)) then (.rt (.error (er 3))) else (.nx ()))
def l_made_wishes_2 (k_net : (Int × (List (T5 Int Int (Int × Int) (Int × Int) Bool)))) (s_3 : Unit) (a_2 : (Int × (T4 Int Int (Int × Int) Bool))) : Go (Unit) (Except Er (List (T4 Int Int (Int × Int) Bool))) := (exG (m_ask_way k_net a_2.2.a a_2.2.b a_2.2.d a_2.1) (fun _ => (.nx ())))
def m_made_wishes (net : (Int × (List (T5 Int Int (Int × Int) (Int × Int) Bool)))) (wishes : (List (T4 Int Int (Int × Int) Bool))) : Except Er (List (T4 Int Int (Int × Int) Bool)) := (bif ((decide ((wishes.length : Int) < (1 : Int))) || (decide ((3 : Int) < (wishes.length : Int)))) then (.error (er 3)) else (goM (forG (l_made_wishes_1 net) wishes ()) (fun r => r) (fun s_2 => (goM (forG (l_made_wishes_2 net) (enumL wishes) ()) (fun r => r) (fun s_4 => (bif (decide ((10 : Int) < ((wishes.map (fun (a_3 : (T4 Int Int (Int × Int) Bool)) => ((m_ways_of net a_3).length : Int))).sum))) then (.error (er 5)) else (.ok wishes)))))))
def r_made_wishes (A : Nat → Addr) (xs : List PyData) (r : Res) : Prop := ∃ (net : (Int × (List (T5 Int Int (Int × Int) (Int × Int) Bool)))) (wishes : (List (T4 Int Int (Int × Int) Bool))), (net.2.length ≤ 13) ∧ (∀ r ∈ net.2, (0 ≤ r.a ∧ r.a < 6) ∧ (0 ≤ r.b ∧ r.b < 6)) ∧ (∀ w ∈ wishes, 0 ≤ w.a ∧ w.a < 6) ∧ xs = [((eP PyData.int (eL (eT5 PyData.int PyData.int (eP PyData.int PyData.int) (eP PyData.int PyData.int) PyData.bool))) net), ((eL (eT4 PyData.int PyData.int (eP PyData.int PyData.int) PyData.bool)) wishes)] ∧ r = resEO A (oL (eT4 PyData.int PyData.int (eP PyData.int PyData.int) PyData.bool)) (m_made_wishes net wishes)
abbrev N_made_wishes : List Str := ["net", "wishes", "wish", "number"]
theorem sc_made_wishes : FnScope N_made_wishes ["net", "wishes"] (defScope s_made_wishes) := ⟨rfl, rfl, rfl, by decide +kernel, rfl, by decide +kernel, by decide +kernel⟩
theorem ok_made_wishes (F : Def K mg "made_wishes" s_made_wishes ["net", "wishes"]) (T : Txt K mg A) (c_ask_way : Cal P w K mg base "ask_way" 5 (r_ask_way A) 4) (c_wish_fits : Cal P w K mg base "wish_fits" 2 r_wish_fits 4) (c_ways_of : Cal P w K mg base "ways_of" 2 r_ways_of 3) : Cal P w K mg base "made_wishes" 2 (r_made_wishes A) 5 := by
  refine cal_ok F sc_made_wishes rfl fun fa cdv AA outer ss HH EE X hX C hr xs r hl hR => ?_
  obtain ⟨net, wishes, pre_0, pre_1, pre_2, rfl, rfl⟩ := hR
  subst hX
  show DSs _ _ _ [.v ((eP PyData.int (eL (eT5 PyData.int PyData.int (eP PyData.int PyData.int) (eP PyData.int PyData.int) PyData.bool))) net), .v ((eL (eT4 PyData.int PyData.int (eP PyData.int PyData.int) PyData.bool)) wishes), .no, .no] _
  refine ds_ifr (DW.toT (dw_or (dt_lt (de_lenL (de_v 1 (pv 1)) rfl T.b_len) de_int) (fun _ => (dw_or1 (dt_gt (de_lenL (de_v 1 (pv 1)) rfl T.b_len) (de_const T.c_MOST_WISHES rfl)))))) (fun c_1 => ?_) (fun c_1 => ?_)
  · have q_c_1 := c_1
    try simp only [eqD_t, eqD_f, decide_eq_true_eq, decide_eq_false_iff_not, Bool.not_eq_true', Bool.not_eq_false', Bool.and_eq_true, Bool.or_eq_true, Bool.and_eq_false_iff, Bool.or_eq_false_iff, Bool.not_true, Bool.not_false, Bool.not_not, Decidable.not_not] at q_c_1
    exact ds_raise C T.x_NoWish rfl (by first | (simp only [m_made_wishes, resE, resEO, fin, c_1, cond_true, cond_false, Bool.not_true, Bool.not_false, goM, goN]; first | done | rfl) | (simp only [m_made_wishes, resE, resEO, fin]; rw [c_1]; first | done | rfl) | (simp only [m_made_wishes, resE, resEO, fin]; (try dsimp only at c_1); (try simp only [c_1, cond_true, cond_false, Bool.not_true, Bool.not_false, goM, goN]); first | done | rfl))
  have q_c_1 := c_1
  try simp only [eqD_t, eqD_f, decide_eq_true_eq, decide_eq_false_iff_not, Bool.not_eq_true', Bool.not_eq_false', Bool.and_eq_true, Bool.or_eq_true, Bool.and_eq_false_iff, Bool.or_eq_false_iff, Bool.not_true, Bool.not_false, Bool.not_not, Decidable.not_not] at q_c_1
  refine ds_forG (items := wishes) (ea := (eT4 PyData.int PyData.int (eP PyData.int PyData.int) PyData.bool)) (fun (s_1 : Unit) => [.v ((eP PyData.int (eL (eT5 PyData.int PyData.int (eP PyData.int PyData.int) (eP PyData.int PyData.int) PyData.bool))) net), .v ((eL (eT4 PyData.int PyData.int (eP PyData.int PyData.int) PyData.bool)) wishes), .no, .no]) (l_made_wishes_1 net) () (fun (i_1 : Nat) (s_1 : Unit) => True) (fun (s_1 : Unit) => True) (fun (r : (Except Er (List (T4 Int Int (Int × Int) Bool)))) o => fin (resEO A (oL (eT4 PyData.int PyData.int (eP PyData.int PyData.int) PyData.bool)) r) o) C (di_list (de_v 1 (pv 1))) (tg_name (ln 2 sc_made_wishes.nd)) (by repeat (first | exact Le.nil | refine Le.same ?_ | refine Le.drop ?_)) (by first | trivial | omega) ?_ (fun _ h => h) ?_ ?_
  · intro i_1 a_1 s_1 ha_1 hi_1
    refine ⟨[.v ((eP PyData.int (eL (eT5 PyData.int PyData.int (eP PyData.int PyData.int) (eP PyData.int PyData.int) PyData.bool))) net), .v ((eL (eT4 PyData.int PyData.int (eP PyData.int PyData.int) PyData.bool)) wishes), .v ((eT4 PyData.int PyData.int (eP PyData.int PyData.int) PyData.bool) a_1), .no], rfl, ?_⟩
    refine ds_ifr (dt_not (dt_val (de_call (f := "wish_fits") (c_wish_fits.at hr) rfl (da_cons (de_v 2 (pv 2)) (da_cons (de_it (de_v 0 (pv 0)) de_int) da_nil)) ⟨a_1, net.1, rfl, rfl⟩))) (fun c_2 => ?_) (fun c_2 => ?_)
    · have q_c_2 := c_2
      try simp only [eqD_t, eqD_f, decide_eq_true_eq, decide_eq_false_iff_not, Bool.not_eq_true', Bool.not_eq_false', Bool.and_eq_true, Bool.or_eq_true, Bool.and_eq_false_iff, Bool.or_eq_false_iff, Bool.not_true, Bool.not_false, Bool.not_not, Decidable.not_not] at q_c_2
      exact ds_raise C T.x_NoWish rfl ⟨.error (er 3), (by first | (simp only [l_made_wishes_1, c_1, c_2, cond_true, cond_false, Bool.not_true, Bool.not_false, goM, goN]; first | done | rfl) | (simp only [l_made_wishes_1]; rw [c_1, c_2]; first | done | rfl) | (simp only [l_made_wishes_1]; (try dsimp only at c_1); (try dsimp only at c_2); (try simp only [c_1, cond_true, cond_false, Bool.not_true, Bool.not_false, goM, goN]); (try simp only [c_2, cond_true, cond_false, Bool.not_true, Bool.not_false, goM, goN]); first | done | rfl)), rfl⟩
    have q_c_2 := c_2
    try simp only [eqD_t, eqD_f, decide_eq_true_eq, decide_eq_false_iff_not, Bool.not_eq_true', Bool.not_eq_false', Bool.and_eq_true, Bool.or_eq_true, Bool.and_eq_false_iff, Bool.or_eq_false_iff, Bool.not_true, Bool.not_false, Bool.not_not, Decidable.not_not] at q_c_2
    exact ds_nil ⟨(), (by first | (simp only [l_made_wishes_1, c_1, c_2, cond_true, cond_false, Bool.not_true, Bool.not_false, goM, goN]; first | done | rfl) | (simp only [l_made_wishes_1]; rw [c_1, c_2]; first | done | rfl) | (simp only [l_made_wishes_1]; (try dsimp only at c_1); (try dsimp only at c_2); (try simp only [c_1, cond_true, cond_false, Bool.not_true, Bool.not_false, goM, goN]); (try simp only [c_2, cond_true, cond_false, Bool.not_true, Bool.not_false, goM, goN]); first | done | rfl)), (by repeat (first | exact Le.nil | refine Le.same ?_ | refine Le.drop ?_)), (by first | trivial | omega)⟩
  · intro r o f_1 ho hr_
    have hm : m_made_wishes net wishes = r := (by simp only [m_made_wishes, f_1, goM, c_1, cond_true, cond_false, Bool.not_true, Bool.not_false, goM, goN]; try rfl)
    rw [hm]; exact hr_
  intro s_2 f_1 hi_1
  refine ds_forG (items := (enumL wishes)) (ea := (eP PyData.int (eT4 PyData.int PyData.int (eP PyData.int PyData.int) PyData.bool))) (fun (s_3 : Unit) => [.v ((eP PyData.int (eL (eT5 PyData.int PyData.int (eP PyData.int PyData.int) (eP PyData.int PyData.int) PyData.bool))) net), .v ((eL (eT4 PyData.int PyData.int (eP PyData.int PyData.int) PyData.bool)) wishes), .no, .no]) (l_made_wishes_2 net) () (fun (i_2 : Nat) (s_3 : Unit) => True) (fun (s_3 : Unit) => True) (fun (r : (Except Er (List (T4 Int Int (Int × Int) Bool)))) o => fin (resEO A (oL (eT4 PyData.int PyData.int (eP PyData.int PyData.int) PyData.bool)) r) o) C (di_enumL (de_v 1 (pv 1)) rfl T.b_enumerate) (tg_two rfl (tg_name (ln 3 sc_made_wishes.nd)) (tg_name (ln 2 sc_made_wishes.nd))) (by repeat (first | exact Le.nil | refine Le.same ?_ | refine Le.drop ?_)) (by first | trivial | omega) ?_ (fun _ h => h) ?_ ?_
  · intro i_2 a_2 s_3 ha_2 hi_2
    refine ⟨[.v ((eP PyData.int (eL (eT5 PyData.int PyData.int (eP PyData.int PyData.int) (eP PyData.int PyData.int) PyData.bool))) net), .v ((eL (eT4 PyData.int PyData.int (eP PyData.int PyData.int) PyData.bool)) wishes), .v ((eT4 PyData.int PyData.int (eP PyData.int PyData.int) PyData.bool) a_2.2), .v (.int a_2.1)], rfl, ?_⟩
    cases g_1 : (m_ask_way net a_2.2.a a_2.2.b a_2.2.d a_2.1) with
    | error em => exact ds_exprE (f := "ask_way") C (c_ask_way.at hr) rfl (da_cons (de_v 0 (pv 0)) (da_cons (de_it (de_v 2 (pv 2)) de_int) (da_cons (de_it (de_v 2 (pv 2)) de_int) (da_cons (de_it (de_v 2 (pv 2)) de_int) (da_cons (de_v 3 (pv 3)) da_nil))))) ⟨net, a_2.2.a, a_2.2.b, a_2.2.d, a_2.1, (by first | omega | assumption | (have h9 := pre_2 _ (List.mem_of_getElem? ha_1); omega) | (have h9 := pre_2 _ (enumL_in (List.mem_of_getElem? ha_2)); omega) | exact pre_2 _ (by assumption) | decide), (by first | omega | assumption | (have h9 := pre_2 _ (List.mem_of_getElem? ha_1); omega) | (have h9 := pre_2 _ (enumL_in (List.mem_of_getElem? ha_2)); omega) | exact pre_2 _ (by assumption) | decide), (by first | omega | assumption | (have h9 := pre_2 _ (List.mem_of_getElem? ha_1); omega) | (have h9 := pre_2 _ (enumL_in (List.mem_of_getElem? ha_2)); omega) | exact pre_2 _ (by assumption) | decide), rfl, by rw [g_1]; rfl⟩ ⟨em, rfl⟩ ⟨.error em, (by first | (simp only [l_made_wishes_2, exG_er, c_1, f_1, g_1, cond_true, cond_false, Bool.not_true, Bool.not_false, goM, goN]; first | done | rfl) | (simp only [l_made_wishes_2, exG_er]; rw [c_1, f_1, g_1]; first | done | rfl) | (simp only [l_made_wishes_2, exG_er]; (try dsimp only at c_1); (try dsimp only at f_1); (try dsimp only at g_1); (try simp only [c_1, cond_true, cond_false, Bool.not_true, Bool.not_false, goM, goN]); (try simp only [f_1, cond_true, cond_false, Bool.not_true, Bool.not_false, goM, goN]); (try simp only [g_1, cond_true, cond_false, Bool.not_true, Bool.not_false, goM, goN]); first | done | rfl)), rfl⟩
    | ok ev =>
      refine ds_then (E' := [.v ((eP PyData.int (eL (eT5 PyData.int PyData.int (eP PyData.int PyData.int) (eP PyData.int PyData.int) PyData.bool))) net), .v ((eL (eT4 PyData.int PyData.int (eP PyData.int PyData.int) PyData.bool)) wishes), .v ((eT4 PyData.int PyData.int (eP PyData.int PyData.int) PyData.bool) a_2.2), .v (.int a_2.1)]) (ds_expr (de_call (f := "ask_way") (c_ask_way.at hr) rfl (da_cons (de_v 0 (pv 0)) (da_cons (de_it (de_v 2 (pv 2)) de_int) (da_cons (de_it (de_v 2 (pv 2)) de_int) (da_cons (de_it (de_v 2 (pv 2)) de_int) (da_cons (de_v 3 (pv 3)) da_nil))))) ⟨net, a_2.2.a, a_2.2.b, a_2.2.d, a_2.1, (by first | omega | assumption | (have h9 := pre_2 _ (List.mem_of_getElem? ha_1); omega) | (have h9 := pre_2 _ (enumL_in (List.mem_of_getElem? ha_2)); omega) | exact pre_2 _ (by assumption) | decide), (by first | omega | assumption | (have h9 := pre_2 _ (List.mem_of_getElem? ha_1); omega) | (have h9 := pre_2 _ (enumL_in (List.mem_of_getElem? ha_2)); omega) | exact pre_2 _ (by assumption) | decide), (by first | omega | assumption | (have h9 := pre_2 _ (List.mem_of_getElem? ha_1); omega) | (have h9 := pre_2 _ (enumL_in (List.mem_of_getElem? ha_2)); omega) | exact pre_2 _ (by assumption) | decide), rfl, by rw [g_1]; rfl⟩)) ?_
      exact ds_nil ⟨(), (by first | (simp only [l_made_wishes_2, c_1, f_1, g_1, cond_true, cond_false, Bool.not_true, Bool.not_false, goM, goN]; first | done | rfl) | (simp only [l_made_wishes_2]; rw [c_1, f_1, g_1]; first | done | rfl) | (simp only [l_made_wishes_2]; (try dsimp only at c_1); (try dsimp only at f_1); (try dsimp only at g_1); (try simp only [c_1, cond_true, cond_false, Bool.not_true, Bool.not_false, goM, goN]); (try simp only [f_1, cond_true, cond_false, Bool.not_true, Bool.not_false, goM, goN]); (try simp only [g_1, cond_true, cond_false, Bool.not_true, Bool.not_false, goM, goN]); first | done | rfl)), (by repeat (first | exact Le.nil | refine Le.same ?_ | refine Le.drop ?_)), (by first | trivial | omega)⟩
  · intro r o f_2 ho hr_
    have hm : m_made_wishes net wishes = r := (by simp only [m_made_wishes, f_2, goM, c_1, f_1, cond_true, cond_false, Bool.not_true, Bool.not_false, goM, goN]; try rfl)
    rw [hm]; exact hr_
  intro s_4 f_2 hi_2
  refine ds_ifr (dt_gt (de_sum rfl (DN.toL (f := PyData.int) (xs := (wishes.map (fun (a_3 : (T4 Int Int (Int × Int) Bool)) => ((m_ways_of net a_3).length : Int)))) (dn_lc (ea := (eT4 PyData.int PyData.int (eP PyData.int PyData.int) PyData.bool)) (eb := PyData.int) (items := wishes) (fun (a_3 : (T4 Int Int (Int × Int) Bool)) => ((m_ways_of net a_3).length : Int)) rfl sc_made_wishes.nd (di_list (de_v 1 (pv 1))) (blkOk_by (N := N_made_wishes) (sc := defScope s_made_wishes) (own := [("wish", 2)]) (by decide +kernel)) (fun _ _ _ _ _ => (tg_name (ln 2 sc_made_wishes.nd))) (by rw [sizeLine_eq]; first | omega | (simp only [List.length_map, List.length_append, List.length_cons, List.length_nil, List.length_zip, rng_len]; omega)) (fun a_3 h_a_3 => ⟨[.v ((eP PyData.int (eL (eT5 PyData.int PyData.int (eP PyData.int PyData.int) (eP PyData.int PyData.int) PyData.bool))) net), .v ((eL (eT4 PyData.int PyData.int (eP PyData.int PyData.int) PyData.bool)) wishes), .v ((eT4 PyData.int PyData.int (eP PyData.int PyData.int) PyData.bool) a_3), .no], rfl, fun _ _ _ _ _ => (de_lenL (DN.toS (v := (m_ways_of net a_3)) (dat_S (dat_L PyData.int)) (dn_call (f := "ways_of") (t := (oS (oL PyData.int)) (m_ways_of net a_3)) (c_ways_of.at hr) rfl (da_cons (de_v 0 (pv 0)) (da_cons (de_v 2 (pv 2)) da_nil)) ⟨net, a_3, (by first | omega | assumption | (have h9 := pre_2 _ (List.mem_of_getElem? ha_1); omega) | (have h9 := pre_2 _ (enumL_in (List.mem_of_getElem? ha_2)); omega) | exact pre_2 _ (by assumption) | decide), (by first | omega | assumption | (have h9 := pre_2 _ (List.mem_of_getElem? ha_1); omega) | (have h9 := pre_2 _ (enumL_in (List.mem_of_getElem? ha_2)); omega) | exact pre_2 _ (by assumption) | decide), (by first | omega | assumption | (have h9 := pre_2 _ (List.mem_of_getElem? ha_1); omega) | (have h9 := pre_2 _ (enumL_in (List.mem_of_getElem? ha_2)); omega) | exact pre_2 _ (by assumption) | decide), rfl, rfl⟩)) rfl T.b_len)⟩))) rfl T.b_sum) (de_const T.c_MOST_WAYS rfl)) (fun c_3 => ?_) (fun c_3 => ?_)
  · have q_c_3 := c_3
    try simp only [eqD_t, eqD_f, decide_eq_true_eq, decide_eq_false_iff_not, Bool.not_eq_true', Bool.not_eq_false', Bool.and_eq_true, Bool.or_eq_true, Bool.and_eq_false_iff, Bool.or_eq_false_iff, Bool.not_true, Bool.not_false, Bool.not_not, Decidable.not_not] at q_c_3
    exact ds_raise C T.x_TooMany rfl (by first | (simp only [m_made_wishes, resE, resEO, fin, c_1, f_1, f_2, c_3, cond_true, cond_false, Bool.not_true, Bool.not_false, goM, goN]; first | done | rfl) | (simp only [m_made_wishes, resE, resEO, fin]; rw [c_1, f_1, f_2, c_3]; first | done | rfl) | (simp only [m_made_wishes, resE, resEO, fin]; (try dsimp only at c_1); (try dsimp only at f_1); (try dsimp only at f_2); (try dsimp only at c_3); (try simp only [c_1, cond_true, cond_false, Bool.not_true, Bool.not_false, goM, goN]); (try simp only [f_1, cond_true, cond_false, Bool.not_true, Bool.not_false, goM, goN]); (try simp only [f_2, cond_true, cond_false, Bool.not_true, Bool.not_false, goM, goN]); (try simp only [c_3, cond_true, cond_false, Bool.not_true, Bool.not_false, goM, goN]); first | done | rfl))
  have q_c_3 := c_3
  try simp only [eqD_t, eqD_f, decide_eq_true_eq, decide_eq_false_iff_not, Bool.not_eq_true', Bool.not_eq_false', Bool.and_eq_true, Bool.or_eq_true, Bool.and_eq_false_iff, Bool.or_eq_false_iff, Bool.not_true, Bool.not_false, Bool.not_not, Decidable.not_not] at q_c_3
  exact ds_retN (dn_listL (de_v 1 (pv 1)) rfl T.b_list) (.inl (by first | (simp only [m_made_wishes, resE, resEO, c_1, f_1, f_2, c_3, cond_true, cond_false, Bool.not_true, Bool.not_false, goM, goN]; first | done | rfl) | (simp only [m_made_wishes, resE, resEO]; rw [c_1, f_1, f_2, c_3]; first | done | rfl) | (simp only [m_made_wishes, resE, resEO]; (try dsimp only at c_1); (try dsimp only at f_1); (try dsimp only at f_2); (try dsimp only at c_3); (try simp only [c_1, cond_true, cond_false, Bool.not_true, Bool.not_false, goM, goN]); (try simp only [f_1, cond_true, cond_false, Bool.not_true, Bool.not_false, goM, goN]); (try simp only [f_2, cond_true, cond_false, Bool.not_true, Bool.not_false, goM, goN]); (try simp only [c_3, cond_true, cond_false, Bool.not_true, Bool.not_false, goM, goN]); first | done | rfl)))
def l_whole_read_1  (s_1 : Unit) (a_1 : PySem.Str) : Go (Unit) (Option Int) := (bif (!decide (sgC a_1 ∈ ("0123456789" : PySem.Str).cps.toList)) then (.rt (none : (Option Int))) else (.nx ()))
def m_whole_read (word : PySem.Str) : (Option Int) := (bif ((decide ((word.length : Int) < (1 : Int))) || (decide ((18 : Int) < (word.length : Int)))) then (none : (Option Int)) else (goM (forG l_whole_read_1 (signs word) ()) (fun r => r) (fun s_2 => (bif ((decide ((sgAt word (0 : Int)) = ("0" : PySem.Str))) && (decide ((1 : Int) < (word.length : Int)))) then (none : (Option Int)) else (some (intS word))))))
def r_whole_read (xs : List PyData) (r : Res) : Prop := ∃ (word : PySem.Str), (word.length ≤ 1000000) ∧ xs = [(.str word)] ∧ r = .v ((eO PyData.int) (m_whole_read word))
abbrev N_whole_read : List Str := ["word", "sign"]
theorem sc_whole_read : FnScope N_whole_read ["word"] (defScope s_whole_read) := ⟨rfl, rfl, rfl, by decide +kernel, rfl, by decide +kernel, by decide +kernel⟩
theorem ok_whole_read (F : Def K mg "whole_read" s_whole_read ["word"]) (T : Txt K mg A)  : Cal P w K mg base "whole_read" 1 r_whole_read 1 := by
  refine cal_ok F sc_whole_read rfl fun fa cdv AA outer ss HH EE X hX C hr xs r hl hR => ?_
  obtain ⟨word, pre_0, rfl, rfl⟩ := hR
  subst hX
  show DSs _ _ _ [.v (.str word), .no] _
  refine ds_ifr (DW.toT (dw_or (dt_lt (de_lenS (de_v 0 (pv 0)) (by rw [sizeLine_eq]; omega) rfl T.b_len) de_int) (fun h_1 => by have q := h_1; (try simp only [eqD_t, eqD_f, decide_eq_true_eq, decide_eq_false_iff_not, Bool.not_eq_true', Bool.not_eq_false', Bool.and_eq_true, Bool.or_eq_true, Bool.and_eq_false_iff, Bool.or_eq_false_iff, Bool.not_true, Bool.not_false, Bool.not_not, Decidable.not_not] at q); exact (dw_or1 (dt_gt (de_lenS (de_v 0 (pv 0)) (by rw [sizeLine_eq]; omega) rfl T.b_len) (de_const T.c_LONGEST rfl)))))) (fun c_1 => ?_) (fun c_1 => ?_)
  · have q_c_1 := c_1
    try simp only [eqD_t, eqD_f, decide_eq_true_eq, decide_eq_false_iff_not, Bool.not_eq_true', Bool.not_eq_false', Bool.and_eq_true, Bool.or_eq_true, Bool.and_eq_false_iff, Bool.or_eq_false_iff, Bool.not_true, Bool.not_false, Bool.not_not, Decidable.not_not] at q_c_1
    exact ds_retD de_non (.inl (by first | (simp only [m_whole_read, c_1, cond_true, cond_false, Bool.not_true, Bool.not_false, goM, goN]; first | done | rfl) | (simp only [m_whole_read]; rw [c_1]; first | done | rfl) | (simp only [m_whole_read]; (try dsimp only at c_1); (try simp only [c_1, cond_true, cond_false, Bool.not_true, Bool.not_false, goM, goN]); first | done | rfl)))
  have q_c_1 := c_1
  try simp only [eqD_t, eqD_f, decide_eq_true_eq, decide_eq_false_iff_not, Bool.not_eq_true', Bool.not_eq_false', Bool.and_eq_true, Bool.or_eq_true, Bool.and_eq_false_iff, Bool.or_eq_false_iff, Bool.not_true, Bool.not_false, Bool.not_not, Decidable.not_not] at q_c_1
  refine ds_forG (items := (signs word)) (ea := PyData.str) (fun (s_1 : Unit) => [.v (.str word), .no]) l_whole_read_1 () (fun (i_1 : Nat) (s_1 : Unit) => AllS (fun s => sgC s ∈ figs) (signs word) (i_1 : Int).toNat) (fun (s_1 : Unit) => AllS (fun s => sgC s ∈ figs) (signs word) (((signs word)).length : Int).toNat) (fun (r : (Option Int)) o => fin (.v ((eO PyData.int) r)) o) C (di_str (de_v 0 (pv 0))) (tg_name (ln 1 sc_whole_read.nd)) (by repeat (first | exact Le.nil | refine Le.same ?_ | refine Le.drop ?_)) (by exact allS_0) ?_ (fun _ h => h) ?_ ?_
  · intro i_1 a_1 s_1 ha_1 hi_1
    refine ⟨[.v (.str word), .v (.str a_1)], rfl, ?_⟩
    refine ds_ifr (dt_niSt (de_v 1 (pv 1)) (de_const T.c_FIGURES rfl) (by exact (signs_mem (List.mem_of_getElem? ha_1)).1)) (fun c_2 => ?_) (fun c_2 => ?_)
    · have q_c_2 := c_2
      try simp only [eqD_t, eqD_f, decide_eq_true_eq, decide_eq_false_iff_not, Bool.not_eq_true', Bool.not_eq_false', Bool.and_eq_true, Bool.or_eq_true, Bool.and_eq_false_iff, Bool.or_eq_false_iff, Bool.not_true, Bool.not_false, Bool.not_not, Decidable.not_not] at q_c_2
      exact ds_retD de_non ⟨(none : (Option Int)), (by first | (simp only [l_whole_read_1, c_1, c_2, cond_true, cond_false, Bool.not_true, Bool.not_false, goM, goN]; first | done | rfl) | (simp only [l_whole_read_1]; rw [c_1, c_2]; first | done | rfl) | (simp only [l_whole_read_1]; (try dsimp only at c_1); (try dsimp only at c_2); (try simp only [c_1, cond_true, cond_false, Bool.not_true, Bool.not_false, goM, goN]); (try simp only [c_2, cond_true, cond_false, Bool.not_true, Bool.not_false, goM, goN]); first | done | rfl)), .inl rfl⟩
    have q_c_2 := c_2
    try simp only [eqD_t, eqD_f, decide_eq_true_eq, decide_eq_false_iff_not, Bool.not_eq_true', Bool.not_eq_false', Bool.and_eq_true, Bool.or_eq_true, Bool.and_eq_false_iff, Bool.or_eq_false_iff, Bool.not_true, Bool.not_false, Bool.not_not, Decidable.not_not] at q_c_2
    exact ds_nil ⟨(), (by first | (simp only [l_whole_read_1, c_1, c_2, cond_true, cond_false, Bool.not_true, Bool.not_false, goM, goN]; first | done | rfl) | (simp only [l_whole_read_1]; rw [c_1, c_2]; first | done | rfl) | (simp only [l_whole_read_1]; (try dsimp only at c_1); (try dsimp only at c_2); (try simp only [c_1, cond_true, cond_false, Bool.not_true, Bool.not_false, goM, goN]); (try simp only [c_2, cond_true, cond_false, Bool.not_true, Bool.not_false, goM, goN]); first | done | rfl)), (by repeat (first | exact Le.nil | refine Le.same ?_ | refine Le.drop ?_)), (by exact allS_step hi_1 ha_1 (by first | exact q_c_2 | exact of_decide_eq_true q_c_2))⟩
  · intro r o f_1 ho hr_
    have hm : m_whole_read word = r := (by simp only [m_whole_read, f_1, goM, c_1, cond_true, cond_false, Bool.not_true, Bool.not_false, goM, goN]; try rfl)
    rw [hm]; exact hr_
  intro s_2 f_1 hi_1
  refine ds_ifr (DW.toT (dw_and (dt_eqS (de_ixSt (x := word) (de_v 0 (pv 0)) de_int (by rw [sizeLine_eq]; omega) (by first | exact ⟨by omega, by omega⟩ | (first | exact ⟨by omega, by omega⟩ | exact inR_mod (by omega) | (unfold inR; simp only [List.length_map, List.length_append, List.length_cons, List.length_nil, List.length_replicate, rng_len, sx_len]; omega)))) de_str) (fun h_2 => by have q := h_2; (try simp only [eqD_t, eqD_f, decide_eq_true_eq, decide_eq_false_iff_not, Bool.not_eq_true', Bool.not_eq_false', Bool.and_eq_true, Bool.or_eq_true, Bool.and_eq_false_iff, Bool.or_eq_false_iff, Bool.not_true, Bool.not_false, Bool.not_not, Decidable.not_not] at q); exact (dw_and1 (dt_gt (de_lenS (de_v 0 (pv 0)) (by rw [sizeLine_eq]; omega) rfl T.b_len) de_int))))) (fun c_3 => ?_) (fun c_3 => ?_)
  · have q_c_3 := c_3
    try simp only [eqD_t, eqD_f, decide_eq_true_eq, decide_eq_false_iff_not, Bool.not_eq_true', Bool.not_eq_false', Bool.and_eq_true, Bool.or_eq_true, Bool.and_eq_false_iff, Bool.or_eq_false_iff, Bool.not_true, Bool.not_false, Bool.not_not, Decidable.not_not] at q_c_3
    exact ds_retD de_non (.inl (by first | (simp only [m_whole_read, c_1, f_1, c_3, cond_true, cond_false, Bool.not_true, Bool.not_false, goM, goN]; first | done | rfl) | (simp only [m_whole_read]; rw [c_1, f_1, c_3]; first | done | rfl) | (simp only [m_whole_read]; (try dsimp only at c_1); (try dsimp only at f_1); (try dsimp only at c_3); (try simp only [c_1, cond_true, cond_false, Bool.not_true, Bool.not_false, goM, goN]); (try simp only [f_1, cond_true, cond_false, Bool.not_true, Bool.not_false, goM, goN]); (try simp only [c_3, cond_true, cond_false, Bool.not_true, Bool.not_false, goM, goN]); first | done | rfl)))
  have q_c_3 := c_3
  try simp only [eqD_t, eqD_f, decide_eq_true_eq, decide_eq_false_iff_not, Bool.not_eq_true', Bool.not_eq_false', Bool.and_eq_true, Bool.or_eq_true, Bool.and_eq_false_iff, Bool.or_eq_false_iff, Bool.not_true, Bool.not_false, Bool.not_not, Decidable.not_not] at q_c_3
  exact ds_retD (de_intS (de_v 0 (pv 0)) (by exact int_figs (allS_end hi_1) (by omega) (by omega)) (by omega) rfl T.b_int) (.inl (by first | (simp only [m_whole_read, c_1, f_1, c_3, cond_true, cond_false, Bool.not_true, Bool.not_false, goM, goN]; first | done | rfl) | (simp only [m_whole_read]; rw [c_1, f_1, c_3]; first | done | rfl) | (simp only [m_whole_read]; (try dsimp only at c_1); (try dsimp only at f_1); (try dsimp only at c_3); (try simp only [c_1, cond_true, cond_false, Bool.not_true, Bool.not_false, goM, goN]); (try simp only [f_1, cond_true, cond_false, Bool.not_true, Bool.not_false, goM, goN]); (try simp only [c_3, cond_true, cond_false, Bool.not_true, Bool.not_false, goM, goN]); first | done | rfl)))
def m_fraction_read (word : PySem.Str) : (Option (Int × Int)) := (let p_1 := (partS word ("/" : PySem.Str)); (let top_1 := (m_whole_read p_1.a); (let bottom_1 := (some (1 : Int)); (let p_2 := (bif (decide (p_1.b = ("/" : PySem.Str))) then (let bottom_2 := (m_whole_read p_1.c); bottom_2) else bottom_1); (bif ((top_1.isNone) || (p_2.isNone)) then (none : (Option (Int × Int))) else (bif ((decide (p_1.b = ("/" : PySem.Str))) && ((decide ((p_2.getD default) < (2 : Int))) || (!decide ((m_common_part (top_1.getD default) (p_2.getD default)) = (1 : Int))))) then (none : (Option (Int × Int))) else (some ((top_1.getD default), (p_2.getD default)))))))))
def r_fraction_read (xs : List PyData) (r : Res) : Prop := ∃ (word : PySem.Str), (word.length ≤ 1000000) ∧ xs = [(.str word)] ∧ r = .v ((eO (eP PyData.int PyData.int)) (m_fraction_read word))
abbrev N_fraction_read : List Str := ["word", "first", "mark", "last", "top", "bottom"]
theorem sc_fraction_read : FnScope N_fraction_read ["word"] (defScope s_fraction_read) := ⟨rfl, rfl, rfl, by decide +kernel, rfl, by decide +kernel, by decide +kernel⟩
theorem ok_fraction_read (F : Def K mg "fraction_read" s_fraction_read ["word"]) (T : Txt K mg A) (c_common_part : Cal P w K mg base "common_part" 2 r_common_part 1) (c_whole_read : Cal P w K mg base "whole_read" 1 r_whole_read 1) : Cal P w K mg base "fraction_read" 1 r_fraction_read 2 := by
  refine cal_ok F sc_fraction_read rfl fun fa cdv AA outer ss HH EE X hX C hr xs r hl hR => ?_
  obtain ⟨word, pre_0, rfl, rfl⟩ := hR
  subst hX
  show DSs _ _ _ [.v (.str word), .no, .no, .no, .no, .no] _
  have hpl := part_len word ("/" : PySem.Str) (by decide +kernel)
  obtain ⟨p_1, e_p_1⟩ : ∃ z : (T3 PySem.Str PySem.Str PySem.Str), z = (partS word ("/" : PySem.Str)) := ⟨_, rfl⟩
  refine ds_then (E' := [.v (.str word), .v (.str p_1.a), .v (.str p_1.b), .v (.str p_1.c), .no, .no]) (ds_asg (x := ((eT3 PyData.str PyData.str PyData.str) p_1)) (tg_tup rfl (tgs_cons (tg_name (ln 1 sc_fraction_read.nd)) (tgs_cons (tg_name (ln 2 sc_fraction_read.nd)) (tgs_cons (tg_name (ln 3 sc_fraction_read.nd)) tgs_nil))) 3 (fcons_len (fcons_len (fcons_len fnil_len)))) (deC (by subst e_p_1; rfl) (de_partition3 (de_v 0 (pv 0)) de_str (by decide +kernel) (by rw [sizeLine_eq]; omega)))) ?_
  try (have hpq := hpl; rw [← e_p_1] at hpq)
  obtain ⟨top_1, e_top_1⟩ : ∃ z : (Option Int), z = (m_whole_read p_1.a) := ⟨_, rfl⟩
  refine ds_then (E' := [.v (.str word), .v (.str p_1.a), .v (.str p_1.b), .v (.str p_1.c), .v ((eO PyData.int) top_1), .no]) (ds_set (x := ((eO PyData.int) top_1)) (ln 4 sc_fraction_read.nd) (deC (by subst e_top_1; rfl) (de_call (f := "whole_read") (c_whole_read.at hr) rfl (da_cons (de_v 1 (pv 1)) da_nil) ⟨p_1.a, (by first | omega | assumption | (have h9 := hpq; omega) | decide), rfl, rfl⟩))) ?_
  obtain ⟨bottom_1, e_bottom_1⟩ : ∃ z : (Option Int), z = (some (1 : Int)) := ⟨_, rfl⟩
  refine ds_then (E' := [.v (.str word), .v (.str p_1.a), .v (.str p_1.b), .v (.str p_1.c), .v ((eO PyData.int) top_1), .v ((eO PyData.int) bottom_1)]) (ds_set (x := ((eO PyData.int) bottom_1)) (ln 5 sc_fraction_read.nd) (deC (by subst e_bottom_1; rfl) de_int)) ?_
  obtain ⟨p_2, e_p_2⟩ : ∃ z : (Option Int), z = (bif (decide (p_1.b = ("/" : PySem.Str))) then (let bottom_2 := (m_whole_read p_1.c); bottom_2) else bottom_1) := ⟨_, rfl⟩
  try dsimp only at e_p_2
  refine ds_ifl (E' := [.v (.str word), .v (.str p_1.a), .v (.str p_1.b), .v (.str p_1.c), .v ((eO PyData.int) top_1), .v ((eO PyData.int) p_2)]) (dt_eqS (de_v 2 (pv 2)) de_str) (fun c_1 => ?_) (fun c_1 => ?_) ?_
  · have q_c_1 := c_1
    try simp only [eqD_t, eqD_f, decide_eq_true_eq, decide_eq_false_iff_not, Bool.not_eq_true', Bool.not_eq_false', Bool.and_eq_true, Bool.or_eq_true, Bool.and_eq_false_iff, Bool.or_eq_false_iff, Bool.not_true, Bool.not_false, Bool.not_not, Decidable.not_not] at q_c_1
    obtain ⟨bottom_2, e_bottom_2⟩ : ∃ z : (Option Int), z = (m_whole_read p_1.c) := ⟨_, rfl⟩
    refine ds_then (E' := [.v (.str word), .v (.str p_1.a), .v (.str p_1.b), .v (.str p_1.c), .v ((eO PyData.int) top_1), .v ((eO PyData.int) bottom_2)]) (ds_set (x := ((eO PyData.int) bottom_2)) (ln 5 sc_fraction_read.nd) (deC (by subst e_bottom_2; rfl) (de_call (f := "whole_read") (c_whole_read.at hr) rfl (da_cons (de_v 3 (pv 3)) da_nil) ⟨p_1.c, (by first | omega | assumption | (have h9 := hpq; omega) | decide), rfl, rfl⟩))) ?_
    exact ds_nil (by subst e_p_2 e_bottom_2; (try simp only [c_1, cond_true, cond_false, Bool.not_true, Bool.not_false, goM, goN]); (show Le _ _); repeat (first | exact Le.nil | refine Le.same ?_ | refine Le.drop ?_))
  · have q_c_1 := c_1
    try simp only [eqD_t, eqD_f, decide_eq_true_eq, decide_eq_false_iff_not, Bool.not_eq_true', Bool.not_eq_false', Bool.and_eq_true, Bool.or_eq_true, Bool.and_eq_false_iff, Bool.or_eq_false_iff, Bool.not_true, Bool.not_false, Bool.not_not, Decidable.not_not] at q_c_1
    exact ds_nil (by subst e_p_2; (try simp only [c_1, cond_true, cond_false, Bool.not_true, Bool.not_false, goM, goN]); (show Le _ _); repeat (first | exact Le.nil | refine Le.same ?_ | refine Le.drop ?_))
  refine ds_ifr (DW.toT (dw_or (dt_isNO (de_v 4 (pv 4))) (fun _ => (dw_or1 (dt_isNO (de_v 5 (pv 5))))))) (fun c_2 => ?_) (fun c_2 => ?_)
  · have q_c_2 := c_2
    try simp only [eqD_t, eqD_f, decide_eq_true_eq, decide_eq_false_iff_not, Bool.not_eq_true', Bool.not_eq_false', Bool.and_eq_true, Bool.or_eq_true, Bool.and_eq_false_iff, Bool.or_eq_false_iff, Bool.not_true, Bool.not_false, Bool.not_not, Decidable.not_not] at q_c_2
    exact ds_retD de_non (.inl (by subst e_p_1 e_top_1 e_bottom_1 e_p_2; first | (simp only [m_fraction_read, c_2, cond_true, cond_false, Bool.not_true, Bool.not_false, goM, goN]; first | done | rfl) | (simp only [m_fraction_read]; rw [c_2]; first | done | rfl) | (simp only [m_fraction_read]; (try dsimp only at c_2); (try simp only [c_2, cond_true, cond_false, Bool.not_true, Bool.not_false, goM, goN]); first | done | rfl)))
  have q_c_2 := c_2
  try simp only [eqD_t, eqD_f, decide_eq_true_eq, decide_eq_false_iff_not, Bool.not_eq_true', Bool.not_eq_false', Bool.and_eq_true, Bool.or_eq_true, Bool.and_eq_false_iff, Bool.or_eq_false_iff, Bool.not_true, Bool.not_false, Bool.not_not, Decidable.not_not] at q_c_2
  refine ds_ifr (DW.toT (dw_and (dt_eqS (de_v 2 (pv 2)) de_str) (fun h_2 => by have q := h_2; (try simp only [eqD_t, eqD_f, decide_eq_true_eq, decide_eq_false_iff_not, Bool.not_eq_true', Bool.not_eq_false', Bool.and_eq_true, Bool.or_eq_true, Bool.and_eq_false_iff, Bool.or_eq_false_iff, Bool.not_true, Bool.not_false, Bool.not_not, Decidable.not_not] at q); exact (dw_and1 (DW.toT (dw_or (dt_lt (de_unO (f := PyData.int) (o := p_2) (de_v 5 (pv 5)) (by first | assumption | grind)) de_int) (fun h_1 => by have q := h_1; (try simp only [eqD_t, eqD_f, decide_eq_true_eq, decide_eq_false_iff_not, Bool.not_eq_true', Bool.not_eq_false', Bool.and_eq_true, Bool.or_eq_true, Bool.and_eq_false_iff, Bool.or_eq_false_iff, Bool.not_true, Bool.not_false, Bool.not_not, Decidable.not_not] at q); exact (dw_or1 (dt_neI (de_call (f := "common_part") (c_common_part.at hr) rfl (da_cons (de_unO (f := PyData.int) (o := top_1) (de_v 4 (pv 4)) (by first | assumption | grind)) (da_cons (de_unO (f := PyData.int) (o := p_2) (de_v 5 (pv 5)) (by first | assumption | grind)) da_nil)) ⟨(top_1.getD default), (p_2.getD default), rfl, rfl⟩) de_int))))))))) (fun c_3 => ?_) (fun c_3 => ?_)
  · have q_c_3 := c_3
    try simp only [eqD_t, eqD_f, decide_eq_true_eq, decide_eq_false_iff_not, Bool.not_eq_true', Bool.not_eq_false', Bool.and_eq_true, Bool.or_eq_true, Bool.and_eq_false_iff, Bool.or_eq_false_iff, Bool.not_true, Bool.not_false, Bool.not_not, Decidable.not_not] at q_c_3
    exact ds_retD de_non (.inl (by subst e_p_1 e_top_1 e_bottom_1 e_p_2; first | (simp only [m_fraction_read, c_2, c_3, cond_true, cond_false, Bool.not_true, Bool.not_false, goM, goN]; first | done | rfl) | (simp only [m_fraction_read]; rw [c_2, c_3]; first | done | rfl) | (simp only [m_fraction_read]; (try dsimp only at c_2); (try dsimp only at c_3); (try simp only [c_2, cond_true, cond_false, Bool.not_true, Bool.not_false, goM, goN]); (try simp only [c_3, cond_true, cond_false, Bool.not_true, Bool.not_false, goM, goN]); first | done | rfl)))
  have q_c_3 := c_3
  try simp only [eqD_t, eqD_f, decide_eq_true_eq, decide_eq_false_iff_not, Bool.not_eq_true', Bool.not_eq_false', Bool.and_eq_true, Bool.or_eq_true, Bool.and_eq_false_iff, Bool.or_eq_false_iff, Bool.not_true, Bool.not_false, Bool.not_not, Decidable.not_not] at q_c_3
  exact ds_retD (de_tup (da_cons (de_unO (f := PyData.int) (o := top_1) (de_v 4 (pv 4)) (by first | assumption | grind)) (da_cons (de_unO (f := PyData.int) (o := p_2) (de_v 5 (pv 5)) (by first | assumption | grind)) da_nil))) (.inl (by subst e_p_1 e_top_1 e_bottom_1 e_p_2; first | (simp only [m_fraction_read, c_2, c_3, cond_true, cond_false, Bool.not_true, Bool.not_false, goM, goN]; first | done | rfl) | (simp only [m_fraction_read]; rw [c_2, c_3]; first | done | rfl) | (simp only [m_fraction_read]; (try dsimp only at c_2); (try dsimp only at c_3); (try simp only [c_2, cond_true, cond_false, Bool.not_true, Bool.not_false, goM, goN]); (try simp only [c_3, cond_true, cond_false, Bool.not_true, Bool.not_false, goM, goN]); first | done | rfl)))
def m_figure_read (word : PySem.Str) : (Option Int) := (bif ((!decide ((word.length : Int) = (1 : Int))) || (!decide (sgC word ∈ ("0123456789" : PySem.Str).cps.toList))) then (none : (Option Int)) else (some (intS word)))
def r_figure_read (xs : List PyData) (r : Res) : Prop := ∃ (word : PySem.Str), (word.length ≤ 1000000) ∧ xs = [(.str word)] ∧ r = .v ((eO PyData.int) (m_figure_read word))
abbrev N_figure_read : List Str := ["word"]
theorem sc_figure_read : FnScope N_figure_read ["word"] (defScope s_figure_read) := ⟨rfl, rfl, rfl, by decide +kernel, rfl, by decide +kernel, by decide +kernel⟩
theorem ok_figure_read (F : Def K mg "figure_read" s_figure_read ["word"]) (T : Txt K mg A)  : Cal P w K mg base "figure_read" 1 r_figure_read 1 := by
  refine cal_ok F sc_figure_read rfl fun fa cdv AA outer ss HH EE X hX C hr xs r hl hR => ?_
  obtain ⟨word, pre_0, rfl, rfl⟩ := hR
  subst hX
  show DSs _ _ _ [.v (.str word)] _
  refine ds_ifr (DW.toT (dw_or (dt_neI (de_lenS (de_v 0 (pv 0)) (by rw [sizeLine_eq]; omega) rfl T.b_len) de_int) (fun h_1 => by have q := h_1; (try simp only [eqD_t, eqD_f, decide_eq_true_eq, decide_eq_false_iff_not, Bool.not_eq_true', Bool.not_eq_false', Bool.and_eq_true, Bool.or_eq_true, Bool.and_eq_false_iff, Bool.or_eq_false_iff, Bool.not_true, Bool.not_false, Bool.not_not, Decidable.not_not] at q); exact (dw_or1 (dt_niSt (de_v 0 (pv 0)) (de_const T.c_FIGURES rfl) (by omega)))))) (fun c_1 => ?_) (fun c_1 => ?_)
  · have q_c_1 := c_1
    try simp only [eqD_t, eqD_f, decide_eq_true_eq, decide_eq_false_iff_not, Bool.not_eq_true', Bool.not_eq_false', Bool.and_eq_true, Bool.or_eq_true, Bool.and_eq_false_iff, Bool.or_eq_false_iff, Bool.not_true, Bool.not_false, Bool.not_not, Decidable.not_not] at q_c_1
    exact ds_retD de_non (.inl (by first | (simp only [m_figure_read, c_1, cond_true, cond_false, Bool.not_true, Bool.not_false, goM, goN]; first | done | rfl) | (simp only [m_figure_read]; rw [c_1]; first | done | rfl) | (simp only [m_figure_read]; (try dsimp only at c_1); (try simp only [c_1, cond_true, cond_false, Bool.not_true, Bool.not_false, goM, goN]); first | done | rfl)))
  have q_c_1 := c_1
  try simp only [eqD_t, eqD_f, decide_eq_true_eq, decide_eq_false_iff_not, Bool.not_eq_true', Bool.not_eq_false', Bool.and_eq_true, Bool.or_eq_true, Bool.and_eq_false_iff, Bool.or_eq_false_iff, Bool.not_true, Bool.not_false, Bool.not_not, Decidable.not_not] at q_c_1
  exact ds_retD (de_intS (de_v 0 (pv 0)) (by exact int_fig1 (by omega) (by first | exact q_c_1.2 | exact of_decide_eq_true q_c_1.2)) (by omega) rfl T.b_int) (.inl (by first | (simp only [m_figure_read, c_1, cond_true, cond_false, Bool.not_true, Bool.not_false, goM, goN]; first | done | rfl) | (simp only [m_figure_read]; rw [c_1]; first | done | rfl) | (simp only [m_figure_read]; (try dsimp only at c_1); (try simp only [c_1, cond_true, cond_false, Bool.not_true, Bool.not_false, goM, goN]); first | done | rfl)))
theorem row_len {o : Option Int} {n : Int} (h : o = none ∨ o = some 5 ∨ o = some 4) (c : o.isNone = false ∧ n = o.getD default) : n = 5 ∨ n = 4 := by
  rcases h with h | h | h
  · rw [h] at c; cases c.1
  · rw [h] at c; exact .inl c.2
  · rw [h] at c; exact .inr c.2
def m_row_read (part : PySem.Str) : (Option Row) := (let words_1 := (splitS part (" " : PySem.Str)); (let long_1 := (getS [(("road" : PySem.Str), (5 : Int)), (("lane" : PySem.Str), (5 : Int)), (("wish" : PySem.Str), (4 : Int)), (("bus" : PySem.Str), (4 : Int))] (gx words_1 (0 : Int))); (bif ((long_1.isNone) || (!decide ((words_1.length : Int) = (long_1.getD default)))) then (none : (Option Row)) else (let numbers_1 := (([((eO PyData.int) (m_figure_read (gx words_1 (1 : Int)))), ((eO PyData.int) (m_figure_read (gx words_1 (2 : Int))))] : (List PySem.PyData)) ++ ((cutG words_1 (some (3 : Int)) none).map (fun (a_1 : PySem.Str) => ((eO (eP PyData.int PyData.int)) (m_fraction_read a_1))))); (bif (numbers_1.any isNon) then (none : (Option Row)) else (some (asRow (gx words_1 0) numbers_1)))))))
def r_row_read (xs : List PyData) (r : Res) : Prop := ∃ (part : PySem.Str), (part.length ≤ 1000000) ∧ xs = [(.str part)] ∧ r = .v ((eO eRow) (m_row_read part))
abbrev N_row_read : List Str := ["part", "words", "long", "numbers", "word"]
theorem sc_row_read : FnScope N_row_read ["part"] (defScope s_row_read) := ⟨rfl, rfl, rfl, by decide +kernel, rfl, by decide +kernel, by decide +kernel⟩
theorem ok_row_read (F : Def K mg "row_read" s_row_read ["part"]) (T : Txt K mg A) (c_fraction_read : Cal P w K mg base "fraction_read" 1 r_fraction_read 2) (c_figure_read : Cal P w K mg base "figure_read" 1 r_figure_read 1) : Cal P w K mg base "row_read" 1 r_row_read 3 := by
  refine cal_ok F sc_row_read rfl fun fa cdv AA outer ss HH EE X hX C hr xs r hl hR => ?_
  obtain ⟨part, pre_0, rfl, rfl⟩ := hR
  subst hX
  show DSs _ _ _ [.v (.str part), .no, .no, .no, .no] _
  have hsl := split_len part (" " : PySem.Str) (by decide +kernel) (by decide +kernel)
  obtain ⟨words_1, e_words_1⟩ : ∃ z : (List PySem.Str), z = (splitS part (" " : PySem.Str)) := ⟨_, rfl⟩
  refine ds_then (E' := [.v (.str part), .v ((eL PyData.str) words_1), .no, .no, .no]) (ds_set (x := ((eL PyData.str) words_1)) (ln 1 sc_row_read.nd) (deC (by subst e_words_1; rfl) (DN.toL (f := PyData.str) (xs := (splitS part (" " : PySem.Str))) (dn_split (de_v 0 (pv 0)) de_str (by decide +kernel) (by rw [sizeLine_eq]; omega))))) ?_
  rw [← e_words_1] at hsl
  have hwz : ∀ x ∈ words_1, x.length ≤ 1000000 := fun x hx => by have := hsl.1 x hx; omega
  obtain ⟨long_1, e_long_1⟩ : ∃ z : (Option Int), z = (getS [(("road" : PySem.Str), (5 : Int)), (("lane" : PySem.Str), (5 : Int)), (("wish" : PySem.Str), (4 : Int)), (("bus" : PySem.Str), (4 : Int))] (gx words_1 (0 : Int))) := ⟨_, rfl⟩
  refine ds_then (E' := [.v (.str part), .v ((eL PyData.str) words_1), .v ((eO PyData.int) long_1), .no, .no]) (ds_set (x := ((eO PyData.int) long_1)) (ln 2 sc_row_read.nd) (deC (by subst e_long_1; rfl) (de_dgetS (kvs := [(("road" : PySem.Str), (5 : Int)), (("lane" : PySem.Str), (5 : Int)), (("wish" : PySem.Str), (4 : Int)), (("bus" : PySem.Str), (4 : Int))]) hr.units (dps_cons de_str de_int (dps_cons de_str de_int (dps_cons de_str de_int (dps_cons de_str de_int dps_nil)))) (de_ixL (de_v 1 (pv 1)) de_int (by first | first | exact ⟨by omega, by omega⟩ | exact ⟨by have := row_len hlg q_c_1; omega, by have := row_len hlg q_c_1; omega⟩ | (first | exact ⟨by omega, by omega⟩ | exact inR_mod (by omega) | (unfold inR; simp only [List.length_map, List.length_append, List.length_cons, List.length_nil, List.length_replicate, rng_len, sx_len]; omega)))) (by decide +kernel) (by decide)))) ?_
  have hlg := get_45 e_long_1
  refine ds_ifr (DW.toT (dw_or (dt_isNO (de_v 2 (pv 2))) (fun h_1 => by have q := h_1; (try simp only [eqD_t, eqD_f, decide_eq_true_eq, decide_eq_false_iff_not, Bool.not_eq_true', Bool.not_eq_false', Bool.and_eq_true, Bool.or_eq_true, Bool.and_eq_false_iff, Bool.or_eq_false_iff, Bool.not_true, Bool.not_false, Bool.not_not, Decidable.not_not] at q); exact (dw_or1 (dt_neI (de_lenL (de_v 1 (pv 1)) rfl T.b_len) (de_unO (f := PyData.int) (o := long_1) (de_v 2 (pv 2)) (by first | assumption | grind))))))) (fun c_1 => ?_) (fun c_1 => ?_)
  · have q_c_1 := c_1
    try simp only [eqD_t, eqD_f, decide_eq_true_eq, decide_eq_false_iff_not, Bool.not_eq_true', Bool.not_eq_false', Bool.and_eq_true, Bool.or_eq_true, Bool.and_eq_false_iff, Bool.or_eq_false_iff, Bool.not_true, Bool.not_false, Bool.not_not, Decidable.not_not] at q_c_1
    exact ds_retD de_non (.inl (by subst e_words_1 e_long_1; first | (simp only [m_row_read, c_1, cond_true, cond_false, Bool.not_true, Bool.not_false, goM, goN]; first | done | rfl) | (simp only [m_row_read]; rw [c_1]; first | done | rfl) | (simp only [m_row_read]; (try dsimp only at c_1); (try simp only [c_1, cond_true, cond_false, Bool.not_true, Bool.not_false, goM, goN]); first | done | rfl)))
  have q_c_1 := c_1
  try simp only [eqD_t, eqD_f, decide_eq_true_eq, decide_eq_false_iff_not, Bool.not_eq_true', Bool.not_eq_false', Bool.and_eq_true, Bool.or_eq_true, Bool.and_eq_false_iff, Bool.or_eq_false_iff, Bool.not_true, Bool.not_false, Bool.not_not, Decidable.not_not] at q_c_1
  obtain ⟨numbers_1, e_numbers_1⟩ : ∃ z : (List PySem.PyData), z = (([((eO PyData.int) (m_figure_read (gx words_1 (1 : Int)))), ((eO PyData.int) (m_figure_read (gx words_1 (2 : Int))))] : (List PySem.PyData)) ++ ((cutG words_1 (some (3 : Int)) none).map (fun (a_1 : PySem.Str) => ((eO (eP PyData.int PyData.int)) (m_fraction_read a_1))))) := ⟨_, rfl⟩
  refine ds_then (E' := [.v (.str part), .v ((eL PyData.str) words_1), .v ((eO PyData.int) long_1), .v ((eL eA) numbers_1), .no]) (ds_set (x := ((eL eA) numbers_1)) (ln 3 sc_row_read.nd) (deC (by subst e_numbers_1; rfl) (DN.toL (f := eA) (xs := (([((eO PyData.int) (m_figure_read (gx words_1 (1 : Int)))), ((eO PyData.int) (m_figure_read (gx words_1 (2 : Int))))] : (List PySem.PyData)) ++ ((cutG words_1 (some (3 : Int)) none).map (fun (a_1 : PySem.Str) => ((eO (eP PyData.int PyData.int)) (m_fraction_read a_1)))))) (dn_catL (DN.toL (f := eA) (xs := ([((eO PyData.int) (m_figure_read (gx words_1 (1 : Int)))), ((eO PyData.int) (m_figure_read (gx words_1 (2 : Int))))] : (List PySem.PyData))) (dn_lst (da_cons (de_call (f := "figure_read") (c_figure_read.at hr) rfl (da_cons (de_ixL (de_v 1 (pv 1)) de_int (by first | first | exact ⟨by omega, by omega⟩ | exact ⟨by have := row_len hlg q_c_1; omega, by have := row_len hlg q_c_1; omega⟩ | (first | exact ⟨by omega, by omega⟩ | exact inR_mod (by omega) | (unfold inR; simp only [List.length_map, List.length_append, List.length_cons, List.length_nil, List.length_replicate, rng_len, sx_len]; omega)))) da_nil) ⟨(gx words_1 (1 : Int)), (by first | omega | assumption | (have h8 := row_len hlg q_c_1; exact hwz _ (gx_mem ⟨by omega, by omega⟩)) | exact hwz _ (cut_mem (by assumption)) | decide), rfl, rfl⟩) (da_cons (de_call (f := "figure_read") (c_figure_read.at hr) rfl (da_cons (de_ixL (de_v 1 (pv 1)) de_int (by first | first | exact ⟨by omega, by omega⟩ | exact ⟨by have := row_len hlg q_c_1; omega, by have := row_len hlg q_c_1; omega⟩ | (first | exact ⟨by omega, by omega⟩ | exact inR_mod (by omega) | (unfold inR; simp only [List.length_map, List.length_append, List.length_cons, List.length_nil, List.length_replicate, rng_len, sx_len]; omega)))) da_nil) ⟨(gx words_1 (2 : Int)), (by first | omega | assumption | (have h8 := row_len hlg q_c_1; exact hwz _ (gx_mem ⟨by omega, by omega⟩)) | exact hwz _ (cut_mem (by assumption)) | decide), rfl, rfl⟩) da_nil)))) (DN.toL (f := eA) (xs := ((cutG words_1 (some (3 : Int)) none).map (fun (a_1 : PySem.Str) => ((eO (eP PyData.int PyData.int)) (m_fraction_read a_1))))) (dn_lc (ea := PyData.str) (eb := eA) (items := (cutG words_1 (some (3 : Int)) none)) (fun (a_1 : PySem.Str) => ((eO (eP PyData.int PyData.int)) (m_fraction_read a_1))) rfl sc_row_read.nd (di_list (DN.toL (f := PyData.str) (xs := (cutG words_1 (some (3 : Int)) none)) (dn_cutL (de_v 1 (pv 1)) (do_som de_int) do_non))) (blkOk_by (N := N_row_read) (sc := defScope s_row_read) (own := [("word", 4)]) (by decide +kernel)) (fun _ _ _ _ _ => (tg_name (ln 4 sc_row_read.nd))) (by rw [sizeLine_eq]; (have c1 := cutG_len words_1 (some 3) none; omega)) (fun a_1 h_a_1 => ⟨[.v (.str part), .v ((eL PyData.str) words_1), .v ((eO PyData.int) long_1), .no, .v (.str a_1)], rfl, fun _ _ _ _ _ => (de_call (f := "fraction_read") (c_fraction_read.at hr) rfl (da_cons (de_v 4 (pv 4)) da_nil) ⟨a_1, (by first | omega | assumption | (have h8 := row_len hlg q_c_1; exact hwz _ (gx_mem ⟨by omega, by omega⟩)) | exact hwz _ (cut_mem (by assumption)) | decide), rfl, rfl⟩)⟩))) (by rw [sizeLine_eq]; first | omega | ((try rw [e_numbers_1]); have c1 := cutG_len words_1 (some 3) none; have c2 := hsl.2.2; simp only [List.length_append, List.length_cons, List.length_nil, List.length_map]; omega) | (simp only [List.length_append, List.length_cons, List.length_nil, List.length_map, List.length_replicate]; omega)))))) ?_
  refine ds_ifr (dt_inNo (by have := hr.un; omega) de_non (de_v 3 (pv 3)) (by rw [e_numbers_1, optL_is]; exact optL_plain _ _ _)) (fun c_2 => ?_) (fun c_2 => ?_)
  · have q_c_2 := c_2
    try simp only [eqD_t, eqD_f, decide_eq_true_eq, decide_eq_false_iff_not, Bool.not_eq_true', Bool.not_eq_false', Bool.and_eq_true, Bool.or_eq_true, Bool.and_eq_false_iff, Bool.or_eq_false_iff, Bool.not_true, Bool.not_false, Bool.not_not, Decidable.not_not] at q_c_2
    exact ds_retD de_non (.inl (by subst e_words_1 e_long_1 e_numbers_1; first | (simp only [m_row_read, c_1, c_2, cond_true, cond_false, Bool.not_true, Bool.not_false, goM, goN]; first | done | rfl) | (simp only [m_row_read]; rw [c_1, c_2]; first | done | rfl) | (simp only [m_row_read]; (try dsimp only at c_1); (try dsimp only at c_2); (try simp only [c_1, cond_true, cond_false, Bool.not_true, Bool.not_false, goM, goN]); (try simp only [c_2, cond_true, cond_false, Bool.not_true, Bool.not_false, goM, goN]); first | done | rfl)))
  have q_c_2 := c_2
  try simp only [eqD_t, eqD_f, decide_eq_true_eq, decide_eq_false_iff_not, Bool.not_eq_true', Bool.not_eq_false', Bool.and_eq_true, Bool.or_eq_true, Bool.and_eq_false_iff, Bool.or_eq_false_iff, Bool.not_true, Bool.not_false, Bool.not_not, Decidable.not_not] at q_c_2
  exact ds_retD (deC (by exact row_eq (e_numbers_1.trans (optL_is _ _ _ _)) (by assumption)) (DN.toL (f := eA) (xs := ((([(gx words_1 (0 : Int))] : (List PySem.Str)).map PyData.str) ++ numbers_1)) (dn_catL (deC (eL_any PyData.str ([(gx words_1 (0 : Int))] : (List PySem.Str))) (DN.toL (f := PyData.str) (xs := ([(gx words_1 (0 : Int))] : (List PySem.Str))) (dn_lst (da_cons (de_ixL (de_v 1 (pv 1)) de_int (by first | first | exact ⟨by omega, by omega⟩ | exact ⟨by have := row_len hlg q_c_1; omega, by have := row_len hlg q_c_1; omega⟩ | (first | exact ⟨by omega, by omega⟩ | exact inR_mod (by omega) | (unfold inR; simp only [List.length_map, List.length_append, List.length_cons, List.length_nil, List.length_replicate, rng_len, sx_len]; omega)))) da_nil)))) (de_v 3 (pv 3)) (by rw [sizeLine_eq]; first | omega | ((try rw [e_numbers_1]); have c1 := cutG_len words_1 (some 3) none; have c2 := hsl.2.2; simp only [List.length_append, List.length_cons, List.length_nil, List.length_map]; omega) | (simp only [List.length_append, List.length_cons, List.length_nil, List.length_map, List.length_replicate]; omega))))) (.inl (by subst e_words_1 e_long_1 e_numbers_1; first | (simp only [m_row_read, c_1, c_2, cond_true, cond_false, Bool.not_true, Bool.not_false, goM, goN]; first | done | rfl) | (simp only [m_row_read]; rw [c_1, c_2]; first | done | rfl) | (simp only [m_row_read]; (try dsimp only at c_1); (try dsimp only at c_2); (try simp only [c_1, cond_true, cond_false, Bool.not_true, Bool.not_false, goM, goN]); (try simp only [c_2, cond_true, cond_false, Bool.not_true, Bool.not_false, goM, goN]); first | done | rfl)))
theorem row_fs {part : PySem.Str} {o : Option Row} (e : o = m_row_read part) : o.isNone = true ∨ (o.getD default).fs.length = 1 ∨ (o.getD default).fs.length = 2 := by
  unfold m_row_read at e
  simp only at e
  obtain ⟨lg, hl⟩ : ∃ lg, lg = getS [(("road" : PySem.Str), (5 : Int)), (("lane" : PySem.Str), (5 : Int)), (("wish" : PySem.Str), (4 : Int)), (("bus" : PySem.Str), (4 : Int))] (gx (splitS part (" " : PySem.Str)) 0) := ⟨_, rfl⟩
  rw [← hl] at e
  have h45 := get_45 hl
  revert e
  cases hc : (lg.isNone || !decide (((splitS part (" " : PySem.Str)).length : Int) = lg.getD default)) with
  | true => intro e; rw [e]; exact .inl rfl
  | false =>
    rw [cond_false, optL_is]
    cases hn : (optL (m_figure_read (gx (splitS part (" " : PySem.Str)) 1)) (m_figure_read (gx (splitS part (" " : PySem.Str)) 2)) ((cutG (splitS part (" " : PySem.Str)) (some 3) none).map m_fraction_read)).any isNon with
    | true => intro e; rw [e]; exact .inl rfl
    | false =>
      intro e
      rw [e]
      rw [Bool.or_eq_false_iff, Bool.not_eq_false', decide_eq_true_eq] at hc
      have h8 := row_len h45 hc
      have h9 : ((asRow (gx (splitS part (" " : PySem.Str)) 0) (optL (m_figure_read (gx (splitS part (" " : PySem.Str)) 1)) (m_figure_read (gx (splitS part (" " : PySem.Str)) 2)) ((cutG (splitS part (" " : PySem.Str)) (some 3) none).map m_fraction_read))).fs.length : Nat) = (splitS part (" " : PySem.Str)).length - 3 := by
        rw [asRow_len rfl hn, List.length_map, cut_from _ (by decide) (by omega), List.length_drop]
        rfl
      show _ ∨ (asRow _ _).fs.length = 1 ∨ (asRow _ _).fs.length = 2
      rw [h9]
      omega
def m_places_read (part : PySem.Str) : Except Er Int := (let p_1 := (partS part (" " : PySem.Str)); (let many_1 := (m_figure_read p_1.c); (bif ((!decide (p_1.a = ("places" : PySem.Str))) || (many_1.isNone)) then (.error ⟨9, (0 : Int), []⟩) else (.ok (many_1.getD default)))))
def r_places_read (A : Nat → Addr) (xs : List PyData) (r : Res) : Prop := ∃ (part : PySem.Str), (part.length ≤ 1000000) ∧ xs = [(.str part)] ∧ r = resE A PyData.int (m_places_read part)
abbrev N_places_read : List Str := ["part", "head", "mark", "last", "many"]
theorem sc_places_read : FnScope N_places_read ["part"] (defScope s_places_read) := ⟨rfl, rfl, rfl, by decide +kernel, rfl, by decide +kernel, by decide +kernel⟩
theorem ok_places_read (F : Def K mg "places_read" s_places_read ["part"]) (T : Txt K mg A) (c_NoText : IniC P w K mg base "NoText" (A 9) (spNT K (A 9))) (c_figure_read : Cal P w K mg base "figure_read" 1 r_figure_read 1) : Cal P w K mg base "places_read" 1 (r_places_read A) 4 := by
  refine cal_ok F sc_places_read rfl fun fa cdv AA outer ss HH EE X hX C hr xs r hl hR => ?_
  obtain ⟨part, pre_0, rfl, rfl⟩ := hR
  subst hX
  show DSs _ _ _ [.v (.str part), .no, .no, .no, .no] _
  have hpl := part_len part (" " : PySem.Str) (by decide +kernel)
  obtain ⟨p_1, e_p_1⟩ : ∃ z : (T3 PySem.Str PySem.Str PySem.Str), z = (partS part (" " : PySem.Str)) := ⟨_, rfl⟩
  refine ds_then (E' := [.v (.str part), .v (.str p_1.a), .v (.str p_1.b), .v (.str p_1.c), .no]) (ds_asg (x := ((eT3 PyData.str PyData.str PyData.str) p_1)) (tg_tup rfl (tgs_cons (tg_name (ln 1 sc_places_read.nd)) (tgs_cons (tg_name (ln 2 sc_places_read.nd)) (tgs_cons (tg_name (ln 3 sc_places_read.nd)) tgs_nil))) 3 (fcons_len (fcons_len (fcons_len fnil_len)))) (deC (by subst e_p_1; rfl) (de_partition3 (de_v 0 (pv 0)) de_str (by decide +kernel) (by rw [sizeLine_eq]; omega)))) ?_
  try (have hpq := hpl; rw [← e_p_1] at hpq)
  obtain ⟨many_1, e_many_1⟩ : ∃ z : (Option Int), z = (m_figure_read p_1.c) := ⟨_, rfl⟩
  refine ds_then (E' := [.v (.str part), .v (.str p_1.a), .v (.str p_1.b), .v (.str p_1.c), .v ((eO PyData.int) many_1)]) (ds_set (x := ((eO PyData.int) many_1)) (ln 4 sc_places_read.nd) (deC (by subst e_many_1; rfl) (de_call (f := "figure_read") (c_figure_read.at hr) rfl (da_cons (de_v 3 (pv 3)) da_nil) ⟨p_1.c, (by first | omega | assumption | (have h9 := hpq; omega) | decide), rfl, rfl⟩))) ?_
  refine ds_ifr (DW.toT (dw_or (dt_neSt (de_v 1 (pv 1)) de_str) (fun _ => (dw_or1 (dt_isNO (de_v 4 (pv 4))))))) (fun c_1 => ?_) (fun c_1 => ?_)
  · have q_c_1 := c_1
    try simp only [eqD_t, eqD_f, decide_eq_true_eq, decide_eq_false_iff_not, Bool.not_eq_true', Bool.not_eq_false', Bool.and_eq_true, Bool.or_eq_true, Bool.and_eq_false_iff, Bool.or_eq_false_iff, Bool.not_true, Bool.not_false, Bool.not_not, Decidable.not_not] at q_c_1
    exact ds_raiseT C c_NoText (hr.mono (by decide)) rfl (da_cons de_int da_nil) (by subst e_p_1 e_many_1; first | (simp only [m_places_read, resE, resEO, fin, c_1, cond_true, cond_false, Bool.not_true, Bool.not_false, goM, goN]; first | done | rfl) | (simp only [m_places_read, resE, resEO, fin]; rw [c_1]; first | done | rfl) | (simp only [m_places_read, resE, resEO, fin]; (try dsimp only at c_1); (try simp only [c_1, cond_true, cond_false, Bool.not_true, Bool.not_false, goM, goN]); first | done | rfl))
  have q_c_1 := c_1
  try simp only [eqD_t, eqD_f, decide_eq_true_eq, decide_eq_false_iff_not, Bool.not_eq_true', Bool.not_eq_false', Bool.and_eq_true, Bool.or_eq_true, Bool.and_eq_false_iff, Bool.or_eq_false_iff, Bool.not_true, Bool.not_false, Bool.not_not, Decidable.not_not] at q_c_1
  exact ds_retD (de_unO (f := PyData.int) (o := many_1) (de_v 4 (pv 4)) (by first | assumption | grind)) (.inl (by subst e_p_1 e_many_1; first | (simp only [m_places_read, resE, resEO, c_1, cond_true, cond_false, Bool.not_true, Bool.not_false, goM, goN]; first | done | rfl) | (simp only [m_places_read, resE, resEO]; rw [c_1]; first | done | rfl) | (simp only [m_places_read, resE, resEO]; (try dsimp only at c_1); (try simp only [c_1, cond_true, cond_false, Bool.not_true, Bool.not_false, goM, goN]); first | done | rfl)))
def l_read_net_1 (k_parts : (List PySem.Str)) (s_1 : (List (T5 Int Int (Int × Int) (Int × Int) Bool)) × (List (T4 Int Int (Int × Int) Bool))) (a_1 : Int) : Go ((List (T5 Int Int (Int × Int) (Int × Int) Bool)) × (List (T4 Int Int (Int × Int) Bool))) (Except Er ((Int × (List (T5 Int Int (Int × Int) (Int × Int) Bool))) × (List (T4 Int Int (Int × Int) Bool)))) := (let row_1 := (m_row_read (gx k_parts a_1)); (bif ((row_1.isNone) || ((decide (((rowL (row_1.getD default)).length : Int) = (5 : Int))) && (!eqD s_1.2 ([] : (List (T4 Int Int (Int × Int) Bool)))))) then (.rt (.error ⟨9, a_1, []⟩)) else (let p_1 := (bif (decide (((rowL (row_1.getD default)).length : Int) = (5 : Int))) then (let roads_2 := (s_1.1 ++ [(⟨(row_1.getD default).a, (row_1.getD default).b, (gx (row_1.getD default).fs 0), (gx (row_1.getD default).fs 1), (decide ((row_1.getD default).h = ("lane" : PySem.Str)))⟩ : (T5 Int Int (Int × Int) (Int × Int) Bool))]); (roads_2, s_1.2)) else (let wishes_2 := (s_1.2 ++ [(⟨(row_1.getD default).a, (row_1.getD default).b, (gx (row_1.getD default).fs 0), (decide ((row_1.getD default).h = ("bus" : PySem.Str)))⟩ : (T4 Int Int (Int × Int) Bool))]); (s_1.1, wishes_2))); (.nx (p_1.1, p_1.2)))))
structure RnO (text : PySem.Str) : Prop where
  pl : ∃ many, m_places_read (gx (splitS text ("; " : PySem.Str)) (0 : Int)) = .ok many
  dn : ∀ (many : Int) (rs : List (T5 Int Int (Int × Int) (Int × Int) Bool)) (ws : List (T4 Int Int (Int × Int) Bool)), m_places_read (gx (splitS text ("; " : PySem.Str)) (0 : Int)) = .ok many → forG (l_read_net_1 (splitS text ("; " : PySem.Str))) (rng 1 (((splitS text ("; " : PySem.Str)).length : Int) - 1).toNat) ([], []) = .nx (rs, ws) →
    rs.length ≤ 12 ∧ m_made_net many rs = .ok (many, rs) ∧ m_made_wishes (many, rs) ws = .ok ws ∧ rs.length ≤ 13 ∧ (∀ r ∈ rs, (0 ≤ r.a ∧ r.a < 6) ∧ (0 ≤ r.b ∧ r.b < 6)) ∧ ∀ w ∈ ws, 0 ≤ w.a ∧ w.a < 6
def m_read_net (text : PySem.Str) : Except Er ((Int × (List (T5 Int Int (Int × Int) (Int × Int) Bool))) × (List (T4 Int Int (Int × Int) Bool))) := (let parts_1 := (splitS text ("; " : PySem.Str)); (let many_1 := (okvE (m_places_read (gx parts_1 (0 : Int)))); (let roads_1 := ([] : (List (T5 Int Int (Int × Int) (Int × Int) Bool))); (let wishes_1 := ([] : (List (T4 Int Int (Int × Int) Bool))); (goM (forG (l_read_net_1 parts_1) (rng (1 : Int) ((parts_1.length : Int) - (1 : Int)).toNat) (roads_1, wishes_1)) (fun r => r) (fun s_2 => (let net_1 := (okvE (m_made_net many_1 s_2.1)); (.ok (net_1, (okvE (m_made_wishes net_1 s_2.2)))))))))))
def r_read_net (A : Nat → Addr) (xs : List PyData) (r : Res) : Prop := ∃ (text : PySem.Str), (text.length ≤ 1000000) ∧ (RnO text) ∧ xs = [(.str text)] ∧ r = resEO A (oTN PyData.int (eT5 PyData.int PyData.int (eP PyData.int PyData.int) (eP PyData.int PyData.int) PyData.bool) (eT4 PyData.int PyData.int (eP PyData.int PyData.int) PyData.bool)) (m_read_net text)
abbrev N_read_net : List Str := ["text", "parts", "many", "roads", "wishes", "k", "row", "net"]
theorem sc_read_net : FnScope N_read_net ["text"] (defScope s_read_net) := ⟨rfl, rfl, rfl, by decide +kernel, rfl, by decide +kernel, by decide +kernel⟩
theorem ok_read_net (F : Def K mg "read_net" s_read_net ["text"]) (T : Txt K mg A) (c_NoText : IniC P w K mg base "NoText" (A 9) (spNT K (A 9))) (c_made_net : Cal P w K mg base "made_net" 2 (r_made_net A) 5) (c_made_wishes : Cal P w K mg base "made_wishes" 2 (r_made_wishes A) 5) (c_row_read : Cal P w K mg base "row_read" 1 r_row_read 3) (c_places_read : Cal P w K mg base "places_read" 1 (r_places_read A) 4) : Cal P w K mg base "read_net" 1 (r_read_net A) 6 := by
  refine cal_ok F sc_read_net rfl fun fa cdv AA outer ss HH EE X hX C hr xs r hl hR => ?_
  obtain ⟨text, pre_0, pre_1, rfl, rfl⟩ := hR
  subst hX
  show DSs _ _ _ [.v (.str text), .no, .no, .no, .no, .no, .no, .no] _
  have hsl := split_len text ("; " : PySem.Str) (by decide +kernel) (by decide +kernel)
  obtain ⟨mq, hmq⟩ := pre_1.pl
  obtain ⟨parts_1, e_parts_1⟩ : ∃ z : (List PySem.Str), z = (splitS text ("; " : PySem.Str)) := ⟨_, rfl⟩
  refine ds_then (E' := [.v (.str text), .v ((eL PyData.str) parts_1), .no, .no, .no, .no, .no, .no]) (ds_set (x := ((eL PyData.str) parts_1)) (ln 1 sc_read_net.nd) (deC (by subst e_parts_1; rfl) (DN.toL (f := PyData.str) (xs := (splitS text ("; " : PySem.Str))) (dn_split (de_v 0 (pv 0)) de_str (by decide +kernel) (by rw [sizeLine_eq]; omega))))) ?_
  rw [← e_parts_1] at hsl hmq
  have hwz : ∀ x ∈ parts_1, x.length ≤ 1000000 := fun x hx => by have := hsl.1 x hx; omega
  obtain ⟨many_1, e_many_1⟩ : ∃ z : Int, z = (okvE (m_places_read (gx parts_1 (0 : Int)))) := ⟨_, rfl⟩
  refine ds_then (E' := [.v (.str text), .v ((eL PyData.str) parts_1), .v (.int many_1), .no, .no, .no, .no, .no]) (ds_set (x := (.int many_1)) (ln 2 sc_read_net.nd) (deC (by subst e_many_1; rfl) (de_call (f := "places_read") (c_places_read.at hr) rfl (da_cons (de_ixL (de_v 1 (pv 1)) de_int (by first | exact ⟨by omega, by omega⟩ | (first | exact ⟨by omega, by omega⟩ | exact inR_mod (by omega) | (unfold inR; simp only [List.length_map, List.length_append, List.length_cons, List.length_nil, List.length_replicate, rng_len, sx_len]; omega)))) da_nil) ⟨(gx parts_1 (0 : Int)), (by first | omega | assumption | (exact hwz _ (gx_mem ⟨by omega, by omega⟩)) | (have h9 := hdn.1; omega) | (rw [hnt]; exact hdn.2.2.2.1) | (rw [hnt]; exact hdn.2.2.2.2.1) | exact hdn.2.2.2.2.2 | decide), rfl, resE_okv (by rw [hmq]; rfl)⟩))) ?_
  have hmn : many_1 = mq := by rw [e_many_1, hmq]; rfl
  obtain ⟨roads_1, e_roads_1⟩ : ∃ z : (List (T5 Int Int (Int × Int) (Int × Int) Bool)), z = ([] : (List (T5 Int Int (Int × Int) (Int × Int) Bool))) := ⟨_, rfl⟩
  refine ds_then (E' := [.v (.str text), .v ((eL PyData.str) parts_1), .v (.int many_1), .o (oL (eT5 PyData.int PyData.int (eP PyData.int PyData.int) (eP PyData.int PyData.int) PyData.bool) roads_1), .no, .no, .no, .no]) (ds_setN (t := oL (eT5 PyData.int PyData.int (eP PyData.int PyData.int) (eP PyData.int PyData.int) PyData.bool) roads_1) (ln 3 sc_read_net.nd) (dnC (by subst e_roads_1; rfl) (dn_lst da_nil))) ?_
  obtain ⟨wishes_1, e_wishes_1⟩ : ∃ z : (List (T4 Int Int (Int × Int) Bool)), z = ([] : (List (T4 Int Int (Int × Int) Bool))) := ⟨_, rfl⟩
  refine ds_then (E' := [.v (.str text), .v ((eL PyData.str) parts_1), .v (.int many_1), .o (oL (eT5 PyData.int PyData.int (eP PyData.int PyData.int) (eP PyData.int PyData.int) PyData.bool) roads_1), .o (oL (eT4 PyData.int PyData.int (eP PyData.int PyData.int) PyData.bool) wishes_1), .no, .no, .no]) (ds_setN (t := oL (eT4 PyData.int PyData.int (eP PyData.int PyData.int) PyData.bool) wishes_1) (ln 4 sc_read_net.nd) (dnC (by subst e_wishes_1; rfl) (dn_lst da_nil))) ?_
  refine ds_forG (items := (rng (1 : Int) ((parts_1.length : Int) - (1 : Int)).toNat)) (ea := PyData.int) (fun (s_1 : (List (T5 Int Int (Int × Int) (Int × Int) Bool)) × (List (T4 Int Int (Int × Int) Bool))) => [.v (.str text), .v ((eL PyData.str) parts_1), .v (.int many_1), .o (oL (eT5 PyData.int PyData.int (eP PyData.int PyData.int) (eP PyData.int PyData.int) PyData.bool) s_1.1), .o (oL (eT4 PyData.int PyData.int (eP PyData.int PyData.int) PyData.bool) s_1.2), .no, .no, .no]) (l_read_net_1 parts_1) (roads_1, wishes_1) (fun (i_1 : Nat) (s_1 : (List (T5 Int Int (Int × Int) (Int × Int) Bool)) × (List (T4 Int Int (Int × Int) Bool))) => ((s_1.1.length : Nat) : Int) + s_1.2.length ≤ (i_1 : Int)) (fun (s_1 : (List (T5 Int Int (Int × Int) (Int × Int) Bool)) × (List (T4 Int Int (Int × Int) Bool))) => ((s_1.1.length : Nat) : Int) + s_1.2.length ≤ (((rng (1 : Int) ((parts_1.length : Int) - (1 : Int)).toNat)).length : Int)) (fun (r : (Except Er ((Int × (List (T5 Int Int (Int × Int) (Int × Int) Bool))) × (List (T4 Int Int (Int × Int) Bool))))) o => fin (resEO A (oTN PyData.int (eT5 PyData.int PyData.int (eP PyData.int PyData.int) (eP PyData.int PyData.int) PyData.bool) (eT4 PyData.int PyData.int (eP PyData.int PyData.int) PyData.bool)) r) o) C (di_range2L de_int (de_lenL (de_v 1 (pv 1)) rfl T.b_len) ⟨⟨by omega, by omega⟩, ⟨by omega, by omega⟩⟩ rfl T.b_range) (tg_name (ln 5 sc_read_net.nd)) (by repeat (first | exact Le.nil | refine Le.same ?_ | refine Le.drop ?_)) (by subst e_roads_1 e_wishes_1; exact Int.le_refl 0) ?_ (fun _ h => h) ?_ ?_
  · intro i_1 a_1 s_1 ha_1 hi_1
    refine ⟨[.v (.str text), .v ((eL PyData.str) parts_1), .v (.int many_1), .o (oL (eT5 PyData.int PyData.int (eP PyData.int PyData.int) (eP PyData.int PyData.int) PyData.bool) s_1.1), .o (oL (eT4 PyData.int PyData.int (eP PyData.int PyData.int) PyData.bool) s_1.2), .v (.int a_1), .no, .no], rfl, ?_⟩
    have hrg := rng_get ha_1
    have hil := get_lt ha_1
    rw [rng_len] at hil
    obtain ⟨row_1, e_row_1⟩ : ∃ z : (Option Row), z = (m_row_read (gx parts_1 a_1)) := ⟨_, rfl⟩
    refine ds_then (E' := [.v (.str text), .v ((eL PyData.str) parts_1), .v (.int many_1), .o (oL (eT5 PyData.int PyData.int (eP PyData.int PyData.int) (eP PyData.int PyData.int) PyData.bool) s_1.1), .o (oL (eT4 PyData.int PyData.int (eP PyData.int PyData.int) PyData.bool) s_1.2), .v (.int a_1), .v ((eO eRow) row_1), .no]) (ds_set (x := ((eO eRow) row_1)) (ln 6 sc_read_net.nd) (deC (by subst e_row_1; rfl) (de_call (f := "row_read") (c_row_read.at hr) rfl (da_cons (de_ixL (de_v 1 (pv 1)) (de_v 5 (pv 5)) (by first | exact ⟨by omega, by omega⟩ | (first | exact ⟨by omega, by omega⟩ | exact inR_mod (by omega) | (unfold inR; simp only [List.length_map, List.length_append, List.length_cons, List.length_nil, List.length_replicate, rng_len, sx_len]; omega)))) da_nil) ⟨(gx parts_1 a_1), (by first | omega | assumption | (exact hwz _ (gx_mem ⟨by omega, by omega⟩)) | (have h9 := hdn.1; omega) | (rw [hnt]; exact hdn.2.2.2.1) | (rw [hnt]; exact hdn.2.2.2.2.1) | exact hdn.2.2.2.2.2 | decide), rfl, rfl⟩))) ?_
    have hrw := row_fs e_row_1
    refine ds_ifr (dt_borrowS 4 (dat_L (eT4 PyData.int PyData.int (eP PyData.int PyData.int) PyData.bool)) rfl (DW.toT (dw_or (dt_isNO (de_v 6 (pv 6))) (fun h_1 => by have q := h_1; (try simp only [eqD_t, eqD_f, decide_eq_true_eq, decide_eq_false_iff_not, Bool.not_eq_true', Bool.not_eq_false', Bool.and_eq_true, Bool.or_eq_true, Bool.and_eq_false_iff, Bool.or_eq_false_iff, Bool.not_true, Bool.not_false, Bool.not_not, Decidable.not_not] at q); exact (dw_or1 (DW.toT (dw_and (dt_eqI (de_lenRow (r := (row_1.getD default)) (de_unO (f := eRow) (o := row_1) (de_v 6 (pv 6)) (by first | exact q_c_1.1 | assumption | grind)) rfl T.b_len) de_int) (fun _ => (dw_and1 (dt_neU (x := s_1.2) (y := ([] : (List (T4 Int Int (Int × Int) Bool)))) hr.units (eqE_L (eqE_T4 eqE_int eqE_int (eqE_P eqE_int eqE_int) eqE_bool)) (de_v 4 (pv 4)) (DN.toL (f := (eT4 PyData.int PyData.int (eP PyData.int PyData.int) PyData.bool)) (xs := ([] : (List (T4 Int Int (Int × Int) Bool)))) (dn_lst da_nil)))))))))))) (fun c_1 => ?_) (fun c_1 => ?_)
    · have q_c_1 := c_1
      try simp only [eqD_t, eqD_f, decide_eq_true_eq, decide_eq_false_iff_not, Bool.not_eq_true', Bool.not_eq_false', Bool.and_eq_true, Bool.or_eq_true, Bool.and_eq_false_iff, Bool.or_eq_false_iff, Bool.not_true, Bool.not_false, Bool.not_not, Decidable.not_not] at q_c_1
      exact ds_raiseT C c_NoText (hr.mono (by decide)) rfl (da_cons (de_v 5 (pv 5)) da_nil) ⟨.error ⟨9, a_1, []⟩, (by subst e_parts_1 e_many_1 e_roads_1 e_wishes_1 e_row_1; first | (simp only [l_read_net_1, c_1, cond_true, cond_false, Bool.not_true, Bool.not_false, goM, goN]; first | done | rfl) | (simp only [l_read_net_1]; rw [c_1]; first | done | rfl) | (simp only [l_read_net_1]; (try dsimp only at c_1); (try simp only [c_1, cond_true, cond_false, Bool.not_true, Bool.not_false, goM, goN]); first | done | rfl)), rfl⟩
    have q_c_1 := c_1
    try simp only [eqD_t, eqD_f, decide_eq_true_eq, decide_eq_false_iff_not, Bool.not_eq_true', Bool.not_eq_false', Bool.and_eq_true, Bool.or_eq_true, Bool.and_eq_false_iff, Bool.or_eq_false_iff, Bool.not_true, Bool.not_false, Bool.not_not, Decidable.not_not] at q_c_1
    obtain ⟨p_1, e_p_1⟩ : ∃ z : (List (T5 Int Int (Int × Int) (Int × Int) Bool)) × (List (T4 Int Int (Int × Int) Bool)), z = (bif (decide (((rowL (row_1.getD default)).length : Int) = (5 : Int))) then (let roads_2 := (s_1.1 ++ [(⟨(row_1.getD default).a, (row_1.getD default).b, (gx (row_1.getD default).fs 0), (gx (row_1.getD default).fs 1), (decide ((row_1.getD default).h = ("lane" : PySem.Str)))⟩ : (T5 Int Int (Int × Int) (Int × Int) Bool))]); (roads_2, s_1.2)) else (let wishes_2 := (s_1.2 ++ [(⟨(row_1.getD default).a, (row_1.getD default).b, (gx (row_1.getD default).fs 0), (decide ((row_1.getD default).h = ("bus" : PySem.Str)))⟩ : (T4 Int Int (Int × Int) Bool))]); (s_1.1, wishes_2))) := ⟨_, rfl⟩
    try dsimp only at e_p_1
    refine ds_ifl (E' := [.v (.str text), .v ((eL PyData.str) parts_1), .v (.int many_1), .o (oL (eT5 PyData.int PyData.int (eP PyData.int PyData.int) (eP PyData.int PyData.int) PyData.bool) p_1.1), .o (oL (eT4 PyData.int PyData.int (eP PyData.int PyData.int) PyData.bool) p_1.2), .v (.int a_1), .v ((eO eRow) row_1), .no]) (dt_eqI (de_lenRow (r := (row_1.getD default)) (de_unO (f := eRow) (o := row_1) (de_v 6 (pv 6)) (by first | exact q_c_1.1 | assumption | grind)) rfl T.b_len) de_int) (fun c_2 => ?_) (fun c_2 => ?_) ?_
    · have q_c_2 := c_2
      try simp only [eqD_t, eqD_f, decide_eq_true_eq, decide_eq_false_iff_not, Bool.not_eq_true', Bool.not_eq_false', Bool.and_eq_true, Bool.or_eq_true, Bool.and_eq_false_iff, Bool.or_eq_false_iff, Bool.not_true, Bool.not_false, Bool.not_not, Decidable.not_not] at q_c_2
      obtain ⟨roads_2, e_roads_2⟩ : ∃ z : (List (T5 Int Int (Int × Int) (Int × Int) Bool)), z = (s_1.1 ++ [(⟨(row_1.getD default).a, (row_1.getD default).b, (gx (row_1.getD default).fs 0), (gx (row_1.getD default).fs 1), (decide ((row_1.getD default).h = ("lane" : PySem.Str)))⟩ : (T5 Int Int (Int × Int) (Int × Int) Bool))]) := ⟨_, rfl⟩
      refine ds_then (E' := [.v (.str text), .v ((eL PyData.str) parts_1), .v (.int many_1), .o (oL (eT5 PyData.int PyData.int (eP PyData.int PyData.int) (eP PyData.int PyData.int) PyData.bool) roads_2), .o (oL (eT4 PyData.int PyData.int (eP PyData.int PyData.int) PyData.bool) s_1.2), .v (.int a_1), .v ((eO eRow) row_1), .no]) (ds_appendL (f := (eT5 PyData.int PyData.int (eP PyData.int PyData.int) (eP PyData.int PyData.int) PyData.bool)) (v := (⟨(row_1.getD default).a, (row_1.getD default).b, (gx (row_1.getD default).fs 0), (gx (row_1.getD default).fs 1), (decide ((row_1.getD default).h = ("lane" : PySem.Str)))⟩ : (T5 Int Int (Int × Int) (Int × Int) Bool))) (xs := s_1.1) (fun _ => pv 3) (de_tup (da_cons (de_row1 (r := (row_1.getD default)) (de_unO (f := eRow) (o := row_1) (de_v 6 (pv 6)) (by first | exact q_c_1.1 | assumption | grind)) de_int) (da_cons (de_row2 (r := (row_1.getD default)) (de_unO (f := eRow) (o := row_1) (de_v 6 (pv 6)) (by first | exact q_c_1.1 | assumption | grind)) de_int) (da_cons (de_rowF3 (r := (row_1.getD default)) (de_unO (f := eRow) (o := row_1) (de_v 6 (pv 6)) (by first | exact q_c_1.1 | assumption | grind)) (by (have h9 := hrw; have h8 := rowL_len (row_1.getD default); have h7 := q_c_1; rcases h9 with z | z | z; (exact absurd z (by first | exact fun y => Bool.noConfusion (y.symm.trans q_c_1.1) | grind)); omega; omega))) (da_cons (de_rowF4 (r := (row_1.getD default)) (de_unO (f := eRow) (o := row_1) (de_v 6 (pv 6)) (by first | exact q_c_1.1 | assumption | grind)) (by (have h9 := hrw; have h8 := rowL_len (row_1.getD default); have h7 := q_c_1; rcases h9 with z | z | z; (exact absurd z (by first | exact fun y => Bool.noConfusion (y.symm.trans q_c_1.1) | grind)); omega; omega))) (da_cons (de_eqS (de_row0 (r := (row_1.getD default)) (de_unO (f := eRow) (o := row_1) (de_v 6 (pv 6)) (by first | exact q_c_1.1 | assumption | grind)) de_int) de_str) da_nil)))))) rfl (by rw [sizeLine_eq]; (have h8 := hi_1; omega)) (by subst e_roads_2; rfl)) ?_
      exact ds_nil (by subst e_p_1 e_roads_2; (try simp only [c_1, c_2, cond_true, cond_false, Bool.not_true, Bool.not_false, goM, goN]); (show Le _ _); repeat (first | exact Le.nil | refine Le.same ?_ | refine Le.drop ?_))
    · have q_c_2 := c_2
      try simp only [eqD_t, eqD_f, decide_eq_true_eq, decide_eq_false_iff_not, Bool.not_eq_true', Bool.not_eq_false', Bool.and_eq_true, Bool.or_eq_true, Bool.and_eq_false_iff, Bool.or_eq_false_iff, Bool.not_true, Bool.not_false, Bool.not_not, Decidable.not_not] at q_c_2
      obtain ⟨wishes_2, e_wishes_2⟩ : ∃ z : (List (T4 Int Int (Int × Int) Bool)), z = (s_1.2 ++ [(⟨(row_1.getD default).a, (row_1.getD default).b, (gx (row_1.getD default).fs 0), (decide ((row_1.getD default).h = ("bus" : PySem.Str)))⟩ : (T4 Int Int (Int × Int) Bool))]) := ⟨_, rfl⟩
      refine ds_then (E' := [.v (.str text), .v ((eL PyData.str) parts_1), .v (.int many_1), .o (oL (eT5 PyData.int PyData.int (eP PyData.int PyData.int) (eP PyData.int PyData.int) PyData.bool) s_1.1), .o (oL (eT4 PyData.int PyData.int (eP PyData.int PyData.int) PyData.bool) wishes_2), .v (.int a_1), .v ((eO eRow) row_1), .no]) (ds_appendL (f := (eT4 PyData.int PyData.int (eP PyData.int PyData.int) PyData.bool)) (v := (⟨(row_1.getD default).a, (row_1.getD default).b, (gx (row_1.getD default).fs 0), (decide ((row_1.getD default).h = ("bus" : PySem.Str)))⟩ : (T4 Int Int (Int × Int) Bool))) (xs := s_1.2) (fun _ => pv 4) (de_tup (da_cons (de_row1 (r := (row_1.getD default)) (de_unO (f := eRow) (o := row_1) (de_v 6 (pv 6)) (by first | exact q_c_1.1 | assumption | grind)) de_int) (da_cons (de_row2 (r := (row_1.getD default)) (de_unO (f := eRow) (o := row_1) (de_v 6 (pv 6)) (by first | exact q_c_1.1 | assumption | grind)) de_int) (da_cons (de_rowF3 (r := (row_1.getD default)) (de_unO (f := eRow) (o := row_1) (de_v 6 (pv 6)) (by first | exact q_c_1.1 | assumption | grind)) (by (have h9 := hrw; have h8 := rowL_len (row_1.getD default); have h7 := q_c_1; rcases h9 with z | z | z; (exact absurd z (by first | exact fun y => Bool.noConfusion (y.symm.trans q_c_1.1) | grind)); omega; omega))) (da_cons (de_eqS (de_row0 (r := (row_1.getD default)) (de_unO (f := eRow) (o := row_1) (de_v 6 (pv 6)) (by first | exact q_c_1.1 | assumption | grind)) de_int) de_str) da_nil))))) rfl (by rw [sizeLine_eq]; (have h8 := hi_1; omega)) (by subst e_wishes_2; rfl)) ?_
      exact ds_nil (by subst e_p_1 e_wishes_2; (try simp only [c_1, c_2, cond_true, cond_false, Bool.not_true, Bool.not_false, goM, goN]); (show Le _ _); repeat (first | exact Le.nil | refine Le.same ?_ | refine Le.drop ?_))
    exact ds_nil ⟨(p_1.1, p_1.2), (by subst e_parts_1 e_many_1 e_roads_1 e_wishes_1 e_row_1 e_p_1; first | (simp only [l_read_net_1, c_1, cond_true, cond_false, Bool.not_true, Bool.not_false, goM, goN]; first | done | rfl) | (simp only [l_read_net_1]; rw [c_1]; first | done | rfl) | (simp only [l_read_net_1]; (try dsimp only at c_1); (try simp only [c_1, cond_true, cond_false, Bool.not_true, Bool.not_false, goM, goN]); first | done | rfl)), (by repeat (first | exact Le.nil | refine Le.same ?_ | refine Le.drop ?_)), (by (rw [e_p_1]; cases decide (((rowL (row_1.getD default)).length : Int) = 5) <;> simp only [cond_true, cond_false, List.length_append, List.length_cons, List.length_nil] <;> omega))⟩
  · intro r o f_1 ho hr_
    have hm : m_read_net text = r := (by subst e_parts_1 e_many_1 e_roads_1 e_wishes_1; simp only [m_read_net, f_1, goM, cond_true, cond_false, Bool.not_true, Bool.not_false, goM, goN]; try rfl)
    rw [hm]; exact hr_
  intro s_2 f_1 hi_1
  have hdn := pre_1.dn many_1 s_2.1 s_2.2 (by rw [← e_parts_1, hmn]; exact hmq) (by have z := f_1; rw [e_roads_1, e_wishes_1] at z; rw [← e_parts_1]; exact z)
  refine ds_freezeL 3 (E' := [.v (.str text), .v ((eL PyData.str) parts_1), .v (.int many_1), .v ((eL (eT5 PyData.int PyData.int (eP PyData.int PyData.int) (eP PyData.int PyData.int) PyData.bool)) s_2.1), .o (oL (eT4 PyData.int PyData.int (eP PyData.int PyData.int) PyData.bool) s_2.2), .no, .no, .no]) rfl rfl ?_
  obtain ⟨net_1, e_net_1⟩ : ∃ z : (Int × (List (T5 Int Int (Int × Int) (Int × Int) Bool))), z = (okvE (m_made_net many_1 s_2.1)) := ⟨_, rfl⟩
  refine ds_then (E' := [.v (.str text), .v ((eL PyData.str) parts_1), .v (.int many_1), .v ((eL (eT5 PyData.int PyData.int (eP PyData.int PyData.int) (eP PyData.int PyData.int) PyData.bool)) s_2.1), .o (oL (eT4 PyData.int PyData.int (eP PyData.int PyData.int) PyData.bool) s_2.2), .no, .no, .o (oPL PyData.int (eT5 PyData.int PyData.int (eP PyData.int PyData.int) (eP PyData.int PyData.int) PyData.bool) net_1)]) (ds_setN (t := oPL PyData.int (eT5 PyData.int PyData.int (eP PyData.int PyData.int) (eP PyData.int PyData.int) PyData.bool) net_1) (ln 7 sc_read_net.nd) (dnC (by subst e_net_1; rfl) (dn_call (f := "made_net") (t := (oPL PyData.int (eT5 PyData.int PyData.int (eP PyData.int PyData.int) (eP PyData.int PyData.int) PyData.bool)) (okvE (m_made_net many_1 s_2.1))) (c_made_net.at hr) rfl (da_cons (de_v 2 (pv 2)) (da_cons (de_v 3 (pv 3)) da_nil)) ⟨many_1, s_2.1, (by first | omega | assumption | (exact hwz _ (gx_mem ⟨by omega, by omega⟩)) | (have h9 := hdn.1; omega) | (rw [hnt]; exact hdn.2.2.2.1) | (rw [hnt]; exact hdn.2.2.2.2.1) | exact hdn.2.2.2.2.2 | decide), rfl, resEO_okv (by rw [hdn.2.1]; rfl)⟩))) ?_
  have hnt : net_1 = (many_1, s_2.1) := by rw [e_net_1, hdn.2.1]; rfl
  refine ds_freezeL 4 (E' := [.v (.str text), .v ((eL PyData.str) parts_1), .v (.int many_1), .v ((eL (eT5 PyData.int PyData.int (eP PyData.int PyData.int) (eP PyData.int PyData.int) PyData.bool)) s_2.1), .v ((eL (eT4 PyData.int PyData.int (eP PyData.int PyData.int) PyData.bool)) s_2.2), .no, .no, .o (oPL PyData.int (eT5 PyData.int PyData.int (eP PyData.int PyData.int) (eP PyData.int PyData.int) PyData.bool) net_1)]) rfl rfl ?_
  exact ds_retTNx (t := oPL PyData.int (eT5 PyData.int PyData.int (eP PyData.int PyData.int) (eP PyData.int PyData.int) PyData.bool) net_1) (u := oL (eT4 PyData.int PyData.int (eP PyData.int PyData.int) PyData.bool) (okvE (m_made_wishes net_1 s_2.2))) (pv 7) rfl (dn_borrowG 7 (dat_PL PyData.int (eT5 PyData.int PyData.int (eP PyData.int PyData.int) (eP PyData.int PyData.int) PyData.bool)) rfl (dn_call (f := "made_wishes") (t := (oL (eT4 PyData.int PyData.int (eP PyData.int PyData.int) PyData.bool)) (okvE (m_made_wishes net_1 s_2.2))) (c_made_wishes.at hr) rfl (da_cons (de_v 7 (pv 7)) (da_cons (de_v 4 (pv 4)) da_nil)) ⟨net_1, s_2.2, (by first | omega | assumption | (exact hwz _ (gx_mem ⟨by omega, by omega⟩)) | (have h9 := hdn.1; omega) | (rw [hnt]; exact hdn.2.2.2.1) | (rw [hnt]; exact hdn.2.2.2.2.1) | exact hdn.2.2.2.2.2 | decide), (by first | omega | assumption | (exact hwz _ (gx_mem ⟨by omega, by omega⟩)) | (have h9 := hdn.1; omega) | (rw [hnt]; exact hdn.2.2.2.1) | (rw [hnt]; exact hdn.2.2.2.2.1) | exact hdn.2.2.2.2.2 | decide), (by first | omega | assumption | (exact hwz _ (gx_mem ⟨by omega, by omega⟩)) | (have h9 := hdn.1; omega) | (rw [hnt]; exact hdn.2.2.2.1) | (rw [hnt]; exact hdn.2.2.2.2.1) | exact hdn.2.2.2.2.2 | decide), rfl, resEO_okv (by rw [hnt, hdn.2.2.1]; rfl)⟩) (oflat_L (fun y => by first | rfl | (cases y <;> rfl)) _)) (.inl (by subst e_parts_1 e_many_1 e_roads_1 e_wishes_1 e_net_1; first | (simp only [m_read_net, resE, resEO, f_1, cond_true, cond_false, Bool.not_true, Bool.not_false, goM, goN]; first | done | rfl) | (simp only [m_read_net, resE, resEO]; rw [f_1]; first | done | rfl) | (simp only [m_read_net, resE, resEO]; (try dsimp only at f_1); (try simp only [f_1, cond_true, cond_false, Bool.not_true, Bool.not_false, goM, goN]); first | done | rfl)))
theorem read_net_loop {ps : List PySem.Str} : ∀ (ks : List Int) (s : (List (T5 Int Int (Int × Int) (Int × Int) Bool)) × (List (T4 Int Int (Int × Int) Bool))), (∃ s', forG (l_read_net_1 ps) ks s = .nx s') ∨ ∃ k ∈ ks, forG (l_read_net_1 ps) ks s = .rt (.error ⟨9, k, []⟩)
  | [], s => .inl ⟨s, rfl⟩
  | k :: ks, s => by
    have step : (∃ s', l_read_net_1 ps s k = .nx s') ∨ l_read_net_1 ps s k = .rt (.error ⟨9, k, []⟩) := by
      unfold l_read_net_1
      simp only
      cases ((m_row_read (gx ps k)).isNone || (decide (((rowL ((m_row_read (gx ps k)).getD default)).length : Int) = 5) && !eqD s.2 [])) with
      | true => exact .inr rfl
      | false => exact .inl ⟨_, rfl⟩
    rcases step with ⟨s', h⟩ | h
    · rcases read_net_loop ks s' with ⟨s2, h2⟩ | ⟨k2, hk2, h2⟩
      · exact .inl ⟨s2, by rw [forG, h]; exact h2⟩
      · exact .inr ⟨k2, List.mem_cons_of_mem _ hk2, by rw [forG, h]; exact h2⟩
    · exact .inr ⟨k, List.mem_cons_self, by rw [forG, h]⟩
theorem read_net_codes {text : PySem.Str} {e : Er} (h : m_read_net text = .error e) : e.c = 9 := by
  unfold m_read_net at h
  simp only at h
  rcases read_net_loop (ps := splitS text ("; " : PySem.Str)) (rng 1 (((splitS text ("; " : PySem.Str)).length : Int) - 1).toNat) ([], []) with ⟨s', h1⟩ | ⟨k, _, h1⟩
  · rw [h1] at h; cases h
  · rw [h1] at h
    cases h
    rfl
theorem ft_sum {one : Int × Int} (h : FrS one) : sumL [(toString one.1 : PySem.Str), ("/" : PySem.Str), (toString one.2 : PySem.Str)] ≤ sizeLine := by
  have h1 := sml_len h.1
  have h2 := sml_len h.2
  have h3 : ("/" : PySem.Str).length = 1 := by decide +kernel
  show (toString one.1 : PySem.Str).length + (("/" : PySem.Str).length + ((toString one.2 : PySem.Str).length + 0)) ≤ 16777216
  omega
def m_fraction_text (one : (Int × Int)) : PySem.Str := (bif (decide (one.2 = (1 : Int))) then (toString one.1 : PySem.Str) else (joinL [(toString one.1 : PySem.Str), ("/" : PySem.Str), (toString one.2 : PySem.Str)] PySem.Str.empty))
def r_fraction_text (xs : List PyData) (r : Res) : Prop := ∃ (one : (Int × Int)), (FrS one) ∧ xs = [((eP PyData.int PyData.int) one)] ∧ r = .v (.str (m_fraction_text one))
abbrev N_fraction_text : List Str := ["one", "top", "bottom"]
theorem sc_fraction_text : FnScope N_fraction_text ["one"] (defScope s_fraction_text) := ⟨rfl, rfl, rfl, by decide +kernel, rfl, by decide +kernel, by decide +kernel⟩
theorem ok_fraction_text (F : Def K mg "fraction_text" s_fraction_text ["one"]) (T : Txt K mg A)  : Cal P w K mg base "fraction_text" 1 r_fraction_text 1 := by
  refine cal_ok F sc_fraction_text rfl fun fa cdv AA outer ss HH EE X hX C hr xs r hl hR => ?_
  obtain ⟨one, pre_0, rfl, rfl⟩ := hR
  subst hX
  show DSs _ _ _ [.v ((eP PyData.int PyData.int) one), .no, .no] _
  refine ds_then (E' := [.v ((eP PyData.int PyData.int) one), .v (.int one.1), .v (.int one.2)]) (ds_asg (x := ((eP PyData.int PyData.int) one)) (tg_two rfl (tg_name (ln 1 sc_fraction_text.nd)) (tg_name (ln 2 sc_fraction_text.nd))) (de_v 0 (pv 0))) ?_
  refine ds_ifr (dt_eqI (de_v 2 (pv 2)) de_int) (fun c_1 => ?_) (fun c_1 => ?_)
  · have q_c_1 := c_1
    try simp only [eqD_t, eqD_f, decide_eq_true_eq, decide_eq_false_iff_not, Bool.not_eq_true', Bool.not_eq_false', Bool.and_eq_true, Bool.or_eq_true, Bool.and_eq_false_iff, Bool.or_eq_false_iff, Bool.not_true, Bool.not_false, Bool.not_not, Decidable.not_not] at q_c_1
    exact ds_retD (de_strI (de_v 1 (pv 1)) (by first | exact sml_log pre_0.1 | exact sml_log pre_0.2) rfl T.b_str) (.inl (by first | (simp only [m_fraction_text, c_1, cond_true, cond_false, Bool.not_true, Bool.not_false, goM, goN]; first | done | rfl) | (simp only [m_fraction_text]; rw [c_1]; first | done | rfl) | (simp only [m_fraction_text]; (try dsimp only at c_1); (try simp only [c_1, cond_true, cond_false, Bool.not_true, Bool.not_false, goM, goN]); first | done | rfl)))
  have q_c_1 := c_1
  try simp only [eqD_t, eqD_f, decide_eq_true_eq, decide_eq_false_iff_not, Bool.not_eq_true', Bool.not_eq_false', Bool.and_eq_true, Bool.or_eq_true, Bool.and_eq_false_iff, Bool.or_eq_false_iff, Bool.not_true, Bool.not_false, Bool.not_not, Decidable.not_not] at q_c_1
  exact ds_retD (de_joined (dj_cons (de_fmtI (de_v 1 (pv 1)) (by first | exact sml_log pre_0.1 | exact sml_log pre_0.2)) (dj_cons de_str (dj_cons (de_fmtI (de_v 2 (pv 2)) (by first | exact sml_log pre_0.1 | exact sml_log pre_0.2)) dj_nil))) (by exact ft_sum pre_0)) (.inl (by first | (simp only [m_fraction_text, c_1, cond_true, cond_false, Bool.not_true, Bool.not_false, goM, goN]; first | done | rfl) | (simp only [m_fraction_text]; rw [c_1]; first | done | rfl) | (simp only [m_fraction_text]; (try dsimp only at c_1); (try simp only [c_1, cond_true, cond_false, Bool.not_true, Bool.not_false, goM, goN]); first | done | rfl)))
theorem ft_len {one : Int × Int} (h : FrS one) : (m_fraction_text one).length ≤ 41 := by
  have h1 := sml_len h.1
  have h2 := sml_len h.2
  have h3 : ("/" : PySem.Str).length = 1 := by decide +kernel
  unfold m_fraction_text
  cases decide (one.2 = (1 : Int)) with
  | true => rw [cond_true]; omega
  | false =>
    rw [cond_false]
    show (((PySem.Str.empty ++ (toString one.1 : PySem.Str)) ++ ("/" : PySem.Str)) ++ (toString one.2 : PySem.Str)).length ≤ 41
    rw [len_app, len_app, len_app, show PySem.Str.empty.length = 0 from rfl]
    omega
theorem nt_sum {many : Int} (h : sml many) : sumL [("places " : PySem.Str), (toString many : PySem.Str)] ≤ sizeLine := by
  have h1 := sml_len h
  have h3 : ("places " : PySem.Str).length = 7 := by decide +kernel
  show ("places " : PySem.Str).length + ((toString many : PySem.Str).length + 0) ≤ 16777216
  omega
theorem nt_1 {many : Int} (h : sml many) : (joinL [("places " : PySem.Str), (toString many : PySem.Str)] PySem.Str.empty).length ≤ 300 := by
  have h1 := sml_len h
  have h3 : ("places " : PySem.Str).length = 7 := by decide +kernel
  show ((PySem.Str.empty ++ ("places " : PySem.Str)) ++ (toString many : PySem.Str)).length ≤ 300
  rw [len_app, len_app, show PySem.Str.empty.length = 0 from rfl]
  omega
theorem nt_r {hd : PySem.Str} (hh : hd.length ≤ 41) {r : T5 Int Int (Int × Int) (Int × Int) Bool} (h : RdS r) : (([hd, (toString r.a : PySem.Str), (toString r.b : PySem.Str), (m_fraction_text r.c), (m_fraction_text r.d)] : List PySem.Str).map (·.length)).sum + [hd, (toString r.a : PySem.Str), (toString r.b : PySem.Str), (m_fraction_text r.c), (m_fraction_text r.d)].length * (" " : PySem.Str).length ≤ 300 :=
  sum5 hh (Nat.le_trans (sml_len h.a) (by decide)) (Nat.le_trans (sml_len h.b) (by decide)) (ft_len h.c) (ft_len h.d) (by decide +kernel)
theorem nt_w {hd : PySem.Str} (hh : hd.length ≤ 41) {r : T4 Int Int (Int × Int) Bool} (h : WsS r) : (([hd, (toString r.a : PySem.Str), (toString r.b : PySem.Str), (m_fraction_text r.c)] : List PySem.Str).map (·.length)).sum + [hd, (toString r.a : PySem.Str), (toString r.b : PySem.Str), (m_fraction_text r.c)].length * (" " : PySem.Str).length ≤ 300 :=
  sum4 hh (Nat.le_trans (sml_len h.a) (by decide)) (Nat.le_trans (sml_len h.b) (by decide)) (ft_len h.c) (by decide +kernel)
def l_net_text_1  (s_1 : (List PySem.Str)) (a_1 : (T5 Int Int (Int × Int) (Int × Int) Bool)) : Go ((List PySem.Str)) Empty := (let head_1 := (gx ([("road" : PySem.Str), ("lane" : PySem.Str)] : (List PySem.Str)) (if a_1.e = true then (1 : Int) else 0)); (let parts_2 := (s_1 ++ [(joinS (" " : PySem.Str) ([head_1, (toString a_1.a : PySem.Str), (toString a_1.b : PySem.Str), (m_fraction_text a_1.c), (m_fraction_text a_1.d)] : (List PySem.Str)))]); (.nx parts_2)))
def l_net_text_2  (s_3 : (List PySem.Str)) (a_2 : (T4 Int Int (Int × Int) Bool)) : Go ((List PySem.Str)) Empty := (let head_2 := (gx ([("wish" : PySem.Str), ("bus" : PySem.Str)] : (List PySem.Str)) (if a_2.d = true then (1 : Int) else 0)); (let parts_3 := (s_3 ++ [(joinS (" " : PySem.Str) ([head_2, (toString a_2.a : PySem.Str), (toString a_2.b : PySem.Str), (m_fraction_text a_2.c)] : (List PySem.Str)))]); (.nx parts_3)))
def m_net_text (net : (Int × (List (T5 Int Int (Int × Int) (Int × Int) Bool)))) (wishes : (List (T4 Int Int (Int × Int) Bool))) : PySem.Str := (let parts_1 := ([(joinL [("places " : PySem.Str), (toString net.1 : PySem.Str)] PySem.Str.empty)] : (List PySem.Str)); (goN (forG l_net_text_1 net.2 parts_1) (fun s_2 => (goN (forG l_net_text_2 wishes s_2) (fun s_4 => (joinS ("; " : PySem.Str) s_4))))))
def r_net_text (xs : List PyData) (r : Res) : Prop := ∃ (net : (Int × (List (T5 Int Int (Int × Int) (Int × Int) Bool)))) (wishes : (List (T4 Int Int (Int × Int) Bool))), (NtS net.1 net.2 wishes) ∧ xs = [((eP PyData.int (eL (eT5 PyData.int PyData.int (eP PyData.int PyData.int) (eP PyData.int PyData.int) PyData.bool))) net), ((eL (eT4 PyData.int PyData.int (eP PyData.int PyData.int) PyData.bool)) wishes)] ∧ r = .v (.str (m_net_text net wishes))
abbrev N_net_text : List Str := ["net", "wishes", "many", "roads", "parts", "start", "end", "base", "slope", "lane", "head", "amount"]
theorem sc_net_text : FnScope N_net_text ["net", "wishes"] (defScope s_net_text) := ⟨rfl, rfl, rfl, by decide +kernel, rfl, by decide +kernel, by decide +kernel⟩
theorem ok_net_text (F : Def K mg "net_text" s_net_text ["net", "wishes"]) (T : Txt K mg A) (c_fraction_text : Cal P w K mg base "fraction_text" 1 r_fraction_text 1) : Cal P w K mg base "net_text" 2 r_net_text 2 := by
  refine cal_ok F sc_net_text rfl fun fa cdv AA outer ss HH EE X hX C hr xs r hl hR => ?_
  obtain ⟨net, wishes, pre_0, rfl, rfl⟩ := hR
  subst hX
  show DSs _ _ _ [.v ((eP PyData.int (eL (eT5 PyData.int PyData.int (eP PyData.int PyData.int) (eP PyData.int PyData.int) PyData.bool))) net), .v ((eL (eT4 PyData.int PyData.int (eP PyData.int PyData.int) PyData.bool)) wishes), .no, .no, .no, .no, .no, .no, .no, .no, .no, .no] _
  have hrl := pre_0.rl
  have hwl := pre_0.wl
  refine ds_then (E' := [.v ((eP PyData.int (eL (eT5 PyData.int PyData.int (eP PyData.int PyData.int) (eP PyData.int PyData.int) PyData.bool))) net), .v ((eL (eT4 PyData.int PyData.int (eP PyData.int PyData.int) PyData.bool)) wishes), .v (.int net.1), .v ((eL (eT5 PyData.int PyData.int (eP PyData.int PyData.int) (eP PyData.int PyData.int) PyData.bool)) net.2), .no, .no, .no, .no, .no, .no, .no, .no]) (ds_asg (x := ((eP PyData.int (eL (eT5 PyData.int PyData.int (eP PyData.int PyData.int) (eP PyData.int PyData.int) PyData.bool))) net)) (tg_two rfl (tg_name (ln 2 sc_net_text.nd)) (tg_name (ln 3 sc_net_text.nd))) (de_v 0 (pv 0))) ?_
  obtain ⟨parts_1, e_parts_1⟩ : ∃ z : (List PySem.Str), z = ([(joinL [("places " : PySem.Str), (toString net.1 : PySem.Str)] PySem.Str.empty)] : (List PySem.Str)) := ⟨_, rfl⟩
  refine ds_then (E' := [.v ((eP PyData.int (eL (eT5 PyData.int PyData.int (eP PyData.int PyData.int) (eP PyData.int PyData.int) PyData.bool))) net), .v ((eL (eT4 PyData.int PyData.int (eP PyData.int PyData.int) PyData.bool)) wishes), .v (.int net.1), .v ((eL (eT5 PyData.int PyData.int (eP PyData.int PyData.int) (eP PyData.int PyData.int) PyData.bool)) net.2), .o (oL PyData.str parts_1), .no, .no, .no, .no, .no, .no, .no]) (ds_setN (t := oL PyData.str parts_1) (ln 4 sc_net_text.nd) (dnC (by subst e_parts_1; rfl) (dn_lst (da_cons (de_joined (dj_cons de_str (dj_cons (de_fmtI (de_v 2 (pv 2)) (by first | exact sml_log pre_0.n | exact sml_log hrr.a | exact sml_log hrr.b)) dj_nil)) (by exact nt_sum pre_0.n)) da_nil)))) ?_
  refine ds_forG (items := net.2) (ea := (eT5 PyData.int PyData.int (eP PyData.int PyData.int) (eP PyData.int PyData.int) PyData.bool)) (fun (s_1 : (List PySem.Str)) => [.v ((eP PyData.int (eL (eT5 PyData.int PyData.int (eP PyData.int PyData.int) (eP PyData.int PyData.int) PyData.bool))) net), .v ((eL (eT4 PyData.int PyData.int (eP PyData.int PyData.int) PyData.bool)) wishes), .v (.int net.1), .v ((eL (eT5 PyData.int PyData.int (eP PyData.int PyData.int) (eP PyData.int PyData.int) PyData.bool)) net.2), .o (oL PyData.str s_1), .no, .no, .no, .no, .no, .no, .no]) l_net_text_1 parts_1 (fun (i_1 : Nat) (s_1 : (List PySem.Str)) => PtS s_1 (1 + (i_1 : Int))) (fun (s_1 : (List PySem.Str)) => PtS s_1 (1 + ((net.2).length : Int))) (fun (_ : Empty) _ => False) C (di_list (de_v 3 (pv 3))) (tg_tup rfl (tgs_cons (tg_name (ln 5 sc_net_text.nd)) (tgs_cons (tg_name (ln 6 sc_net_text.nd)) (tgs_cons (tg_name (ln 7 sc_net_text.nd)) (tgs_cons (tg_name (ln 8 sc_net_text.nd)) (tgs_cons (tg_name (ln 9 sc_net_text.nd)) tgs_nil))))) 5 (fcons_len (fcons_len (fcons_len (fcons_len (fcons_len fnil_len)))))) (by repeat (first | exact Le.nil | refine Le.same ?_ | refine Le.drop ?_)) (by subst e_parts_1; exact ptS_1 (nt_1 pre_0.n)) ?_ (fun _ h => h) ?_ ?_
  · intro i_1 a_1 s_1 ha_1 hi_1
    refine ⟨[.v ((eP PyData.int (eL (eT5 PyData.int PyData.int (eP PyData.int PyData.int) (eP PyData.int PyData.int) PyData.bool))) net), .v ((eL (eT4 PyData.int PyData.int (eP PyData.int PyData.int) PyData.bool)) wishes), .v (.int net.1), .v ((eL (eT5 PyData.int PyData.int (eP PyData.int PyData.int) (eP PyData.int PyData.int) PyData.bool)) net.2), .o (oL PyData.str s_1), .v (.int a_1.a), .v (.int a_1.b), .v ((eP PyData.int PyData.int) a_1.c), .v ((eP PyData.int PyData.int) a_1.d), .v (.bool a_1.e), .no, .no], rfl, ?_⟩
    have hil := get_lt ha_1
    have hrr := pre_0.r _ (List.mem_of_getElem? ha_1)
    obtain ⟨head_1, e_head_1⟩ : ∃ z : PySem.Str, z = (gx ([("road" : PySem.Str), ("lane" : PySem.Str)] : (List PySem.Str)) (if a_1.e = true then (1 : Int) else 0)) := ⟨_, rfl⟩
    refine ds_then (E' := [.v ((eP PyData.int (eL (eT5 PyData.int PyData.int (eP PyData.int PyData.int) (eP PyData.int PyData.int) PyData.bool))) net), .v ((eL (eT4 PyData.int PyData.int (eP PyData.int PyData.int) PyData.bool)) wishes), .v (.int net.1), .v ((eL (eT5 PyData.int PyData.int (eP PyData.int PyData.int) (eP PyData.int PyData.int) PyData.bool)) net.2), .o (oL PyData.str s_1), .v (.int a_1.a), .v (.int a_1.b), .v ((eP PyData.int PyData.int) a_1.c), .v ((eP PyData.int PyData.int) a_1.d), .v (.bool a_1.e), .v (.str head_1), .no]) (ds_set (x := (.str head_1)) (ln 10 sc_net_text.nd) (deC (by subst e_head_1; rfl) (de_ixL (DN.toL (f := PyData.str) (xs := ([("road" : PySem.Str), ("lane" : PySem.Str)] : (List PySem.Str))) (dn_lst (da_cons de_str (da_cons de_str da_nil)))) (de_intB (de_v 9 (pv 9)) rfl T.b_int) (by first | exact ⟨by omega, by omega⟩ | exact inR_mod (by omega) | (unfold inR; simp only [List.length_map, List.length_append, List.length_cons, List.length_nil, List.length_replicate, rng_len, sx_len]; omega))))) ?_
    have hhd : head_1.length ≤ 41 := by rw [e_head_1]; exact head2 (by decide +kernel) (by decide +kernel) _
    obtain ⟨parts_2, e_parts_2⟩ : ∃ z : (List PySem.Str), z = (s_1 ++ [(joinS (" " : PySem.Str) ([head_1, (toString a_1.a : PySem.Str), (toString a_1.b : PySem.Str), (m_fraction_text a_1.c), (m_fraction_text a_1.d)] : (List PySem.Str)))]) := ⟨_, rfl⟩
    refine ds_then (E' := [.v ((eP PyData.int (eL (eT5 PyData.int PyData.int (eP PyData.int PyData.int) (eP PyData.int PyData.int) PyData.bool))) net), .v ((eL (eT4 PyData.int PyData.int (eP PyData.int PyData.int) PyData.bool)) wishes), .v (.int net.1), .v ((eL (eT5 PyData.int PyData.int (eP PyData.int PyData.int) (eP PyData.int PyData.int) PyData.bool)) net.2), .o (oL PyData.str parts_2), .v (.int a_1.a), .v (.int a_1.b), .v ((eP PyData.int PyData.int) a_1.c), .v ((eP PyData.int PyData.int) a_1.d), .v (.bool a_1.e), .v (.str head_1), .no]) (ds_appendL (f := PyData.str) (v := (joinS (" " : PySem.Str) ([head_1, (toString a_1.a : PySem.Str), (toString a_1.b : PySem.Str), (m_fraction_text a_1.c), (m_fraction_text a_1.d)] : (List PySem.Str)))) (xs := s_1) (fun _ => pv 4) (de_join (ys := ([head_1, (toString a_1.a : PySem.Str), (toString a_1.b : PySem.Str), (m_fraction_text a_1.c), (m_fraction_text a_1.d)] : (List PySem.Str))) de_str (DN.toL (f := PyData.str) (xs := ([head_1, (toString a_1.a : PySem.Str), (toString a_1.b : PySem.Str), (m_fraction_text a_1.c), (m_fraction_text a_1.d)] : (List PySem.Str))) (dn_lst (da_cons (de_v 10 (pv 10)) (da_cons (de_strI (de_v 5 (pv 5)) (by first | exact sml_log pre_0.n | exact sml_log hrr.a | exact sml_log hrr.b) rfl T.b_str) (da_cons (de_strI (de_v 6 (pv 6)) (by first | exact sml_log pre_0.n | exact sml_log hrr.a | exact sml_log hrr.b) rfl T.b_str) (da_cons (de_call (f := "fraction_text") (c_fraction_text.at hr) rfl (da_cons (de_v 7 (pv 7)) da_nil) ⟨a_1.c, (by first | omega | assumption | exact hrr.c | exact hrr.d | decide), rfl, rfl⟩) (da_cons (de_call (f := "fraction_text") (c_fraction_text.at hr) rfl (da_cons (de_v 8 (pv 8)) da_nil) ⟨a_1.d, (by first | omega | assumption | exact hrr.c | exact hrr.d | decide), rfl, rfl⟩) da_nil))))))) (by first | exact Nat.le_trans (nt_r hhd hrr) (by decide) | exact Nat.le_trans (nt_w hhd hrr) (by decide) | exact ptS_join hi_2 (by omega) (by decide +kernel))) rfl (by rw [sizeLine_eq]; (first | (have h8 := hi_2.2; omega) | (have h8 := hi_1.2; omega))) (by subst e_parts_2; rfl)) ?_
    exact ds_nil ⟨parts_2, (by subst e_parts_1 e_head_1 e_parts_2; simp only [l_net_text_1, cond_true, cond_false, Bool.not_true, Bool.not_false, goM, goN]; try rfl), (by repeat (first | exact Le.nil | refine Le.same ?_ | refine Le.drop ?_)), (by (subst e_parts_2; have h9 := ptS_app hi_1 (Nat.le_trans (join_len _ _) (nt_r hhd hrr)); rwa [show (1 : Int) + ((i_1 + 1 : Nat) : Int) = 1 + (i_1 : Int) + 1 by omega]))⟩
  · intro r o f_1 ho hr_
    exact r.elim
  intro s_2 f_1 hi_1
  have hil := hi_1
  refine ds_forG (items := wishes) (ea := (eT4 PyData.int PyData.int (eP PyData.int PyData.int) PyData.bool)) (fun (s_3 : (List PySem.Str)) => [.v ((eP PyData.int (eL (eT5 PyData.int PyData.int (eP PyData.int PyData.int) (eP PyData.int PyData.int) PyData.bool))) net), .v ((eL (eT4 PyData.int PyData.int (eP PyData.int PyData.int) PyData.bool)) wishes), .v (.int net.1), .v ((eL (eT5 PyData.int PyData.int (eP PyData.int PyData.int) (eP PyData.int PyData.int) PyData.bool)) net.2), .o (oL PyData.str s_3), .no, .no, .no, .no, .no, .no, .no]) l_net_text_2 s_2 (fun (i_2 : Nat) (s_3 : (List PySem.Str)) => PtS s_3 (2000 + (i_2 : Int))) (fun (s_3 : (List PySem.Str)) => PtS s_3 (2000 + ((wishes).length : Int))) (fun (_ : Empty) _ => False) C (di_list (de_v 1 (pv 1))) (tg_tup rfl (tgs_cons (tg_name (ln 5 sc_net_text.nd)) (tgs_cons (tg_name (ln 6 sc_net_text.nd)) (tgs_cons (tg_name (ln 11 sc_net_text.nd)) (tgs_cons (tg_name (ln 9 sc_net_text.nd)) tgs_nil)))) 4 (fcons_len (fcons_len (fcons_len (fcons_len fnil_len))))) (by repeat (first | exact Le.nil | refine Le.same ?_ | refine Le.drop ?_)) (by exact ⟨hi_1.1, by have h8 := hi_1.2; omega⟩) ?_ (fun _ h => h) ?_ ?_
  · intro i_2 a_2 s_3 ha_2 hi_2
    refine ⟨[.v ((eP PyData.int (eL (eT5 PyData.int PyData.int (eP PyData.int PyData.int) (eP PyData.int PyData.int) PyData.bool))) net), .v ((eL (eT4 PyData.int PyData.int (eP PyData.int PyData.int) PyData.bool)) wishes), .v (.int net.1), .v ((eL (eT5 PyData.int PyData.int (eP PyData.int PyData.int) (eP PyData.int PyData.int) PyData.bool)) net.2), .o (oL PyData.str s_3), .v (.int a_2.a), .v (.int a_2.b), .no, .no, .v (.bool a_2.d), .no, .v ((eP PyData.int PyData.int) a_2.c)], rfl, ?_⟩
    have hil := get_lt ha_2
    have hrr := pre_0.w _ (List.mem_of_getElem? ha_2)
    obtain ⟨head_2, e_head_2⟩ : ∃ z : PySem.Str, z = (gx ([("wish" : PySem.Str), ("bus" : PySem.Str)] : (List PySem.Str)) (if a_2.d = true then (1 : Int) else 0)) := ⟨_, rfl⟩
    refine ds_then (E' := [.v ((eP PyData.int (eL (eT5 PyData.int PyData.int (eP PyData.int PyData.int) (eP PyData.int PyData.int) PyData.bool))) net), .v ((eL (eT4 PyData.int PyData.int (eP PyData.int PyData.int) PyData.bool)) wishes), .v (.int net.1), .v ((eL (eT5 PyData.int PyData.int (eP PyData.int PyData.int) (eP PyData.int PyData.int) PyData.bool)) net.2), .o (oL PyData.str s_3), .v (.int a_2.a), .v (.int a_2.b), .no, .no, .v (.bool a_2.d), .v (.str head_2), .v ((eP PyData.int PyData.int) a_2.c)]) (ds_set (x := (.str head_2)) (ln 10 sc_net_text.nd) (deC (by subst e_head_2; rfl) (de_ixL (DN.toL (f := PyData.str) (xs := ([("wish" : PySem.Str), ("bus" : PySem.Str)] : (List PySem.Str))) (dn_lst (da_cons de_str (da_cons de_str da_nil)))) (de_intB (de_v 9 (pv 9)) rfl T.b_int) (by first | exact ⟨by omega, by omega⟩ | exact inR_mod (by omega) | (unfold inR; simp only [List.length_map, List.length_append, List.length_cons, List.length_nil, List.length_replicate, rng_len, sx_len]; omega))))) ?_
    have hhd : head_2.length ≤ 41 := by rw [e_head_2]; exact head2 (by decide +kernel) (by decide +kernel) _
    obtain ⟨parts_3, e_parts_3⟩ : ∃ z : (List PySem.Str), z = (s_3 ++ [(joinS (" " : PySem.Str) ([head_2, (toString a_2.a : PySem.Str), (toString a_2.b : PySem.Str), (m_fraction_text a_2.c)] : (List PySem.Str)))]) := ⟨_, rfl⟩
    refine ds_then (E' := [.v ((eP PyData.int (eL (eT5 PyData.int PyData.int (eP PyData.int PyData.int) (eP PyData.int PyData.int) PyData.bool))) net), .v ((eL (eT4 PyData.int PyData.int (eP PyData.int PyData.int) PyData.bool)) wishes), .v (.int net.1), .v ((eL (eT5 PyData.int PyData.int (eP PyData.int PyData.int) (eP PyData.int PyData.int) PyData.bool)) net.2), .o (oL PyData.str parts_3), .v (.int a_2.a), .v (.int a_2.b), .no, .no, .v (.bool a_2.d), .v (.str head_2), .v ((eP PyData.int PyData.int) a_2.c)]) (ds_appendL (f := PyData.str) (v := (joinS (" " : PySem.Str) ([head_2, (toString a_2.a : PySem.Str), (toString a_2.b : PySem.Str), (m_fraction_text a_2.c)] : (List PySem.Str)))) (xs := s_3) (fun _ => pv 4) (de_join (ys := ([head_2, (toString a_2.a : PySem.Str), (toString a_2.b : PySem.Str), (m_fraction_text a_2.c)] : (List PySem.Str))) de_str (DN.toL (f := PyData.str) (xs := ([head_2, (toString a_2.a : PySem.Str), (toString a_2.b : PySem.Str), (m_fraction_text a_2.c)] : (List PySem.Str))) (dn_lst (da_cons (de_v 10 (pv 10)) (da_cons (de_strI (de_v 5 (pv 5)) (by first | exact sml_log pre_0.n | exact sml_log hrr.a | exact sml_log hrr.b) rfl T.b_str) (da_cons (de_strI (de_v 6 (pv 6)) (by first | exact sml_log pre_0.n | exact sml_log hrr.a | exact sml_log hrr.b) rfl T.b_str) (da_cons (de_call (f := "fraction_text") (c_fraction_text.at hr) rfl (da_cons (de_v 11 (pv 11)) da_nil) ⟨a_2.c, (by first | omega | assumption | exact hrr.c | exact hrr.d | decide), rfl, rfl⟩) da_nil)))))) (by first | exact Nat.le_trans (nt_r hhd hrr) (by decide) | exact Nat.le_trans (nt_w hhd hrr) (by decide) | exact ptS_join hi_2 (by omega) (by decide +kernel))) rfl (by rw [sizeLine_eq]; (first | (have h8 := hi_2.2; omega) | (have h8 := hi_1.2; omega))) (by subst e_parts_3; rfl)) ?_
    exact ds_nil ⟨parts_3, (by subst e_parts_1 e_head_2 e_parts_3; first | (simp only [l_net_text_2, f_1, cond_true, cond_false, Bool.not_true, Bool.not_false, goM, goN]; first | done | rfl) | (simp only [l_net_text_2]; rw [f_1]; first | done | rfl) | (simp only [l_net_text_2]; (try dsimp only at f_1); (try simp only [f_1, cond_true, cond_false, Bool.not_true, Bool.not_false, goM, goN]); first | done | rfl)), (by repeat (first | exact Le.nil | refine Le.same ?_ | refine Le.drop ?_)), (by (subst e_parts_3; have h9 := ptS_app hi_2 (Nat.le_trans (join_len _ _) (nt_w hhd hrr)); rwa [show (2000 : Int) + ((i_2 + 1 : Nat) : Int) = 2000 + (i_2 : Int) + 1 by omega]))⟩
  · intro r o f_2 ho hr_
    exact r.elim
  intro s_4 f_2 hi_2
  refine ds_freezeL 4 (E' := [.v ((eP PyData.int (eL (eT5 PyData.int PyData.int (eP PyData.int PyData.int) (eP PyData.int PyData.int) PyData.bool))) net), .v ((eL (eT4 PyData.int PyData.int (eP PyData.int PyData.int) PyData.bool)) wishes), .v (.int net.1), .v ((eL (eT5 PyData.int PyData.int (eP PyData.int PyData.int) (eP PyData.int PyData.int) PyData.bool)) net.2), .v ((eL PyData.str) s_4), .no, .no, .no, .no, .no, .no, .no]) rfl rfl ?_
  exact ds_retD (de_join (ys := s_4) de_str (de_v 4 (pv 4)) (by first | exact Nat.le_trans (nt_r hhd hrr) (by decide) | exact Nat.le_trans (nt_w hhd hrr) (by decide) | exact ptS_join hi_2 (by omega) (by decide +kernel))) (.inl (by subst e_parts_1; first | (simp only [m_net_text, f_1, f_2, cond_true, cond_false, Bool.not_true, Bool.not_false, goM, goN]; first | done | rfl) | (simp only [m_net_text]; rw [f_1, f_2]; first | done | rfl) | (simp only [m_net_text]; (try dsimp only at f_1); (try dsimp only at f_2); (try simp only [f_1, cond_true, cond_false, Bool.not_true, Bool.not_false, goM, goN]); (try simp only [f_2, cond_true, cond_false, Bool.not_true, Bool.not_false, goM, goN]); first | done | rfl)))
def m_l_whole (l_found : PySem.PyData) : Bool := ((isInt l_found) && (!(isBool l_found)))
def r_l_whole (xs : List PyData) (r : Res) : Prop := ∃ (l_found : PySem.PyData), xs = [l_found] ∧ r = .v (.bool (m_l_whole l_found))
abbrev N_l_whole : List Str := ["_law_found"]
theorem sc_l_whole : FnScope N_l_whole ["_law_found"] (defScope s_l_whole) := ⟨rfl, rfl, rfl, by decide +kernel, rfl, by decide +kernel, by decide +kernel⟩
theorem ok_l_whole (F : Def K mg "_law_whole" s_l_whole ["_law_found"]) (T : Txt K mg A)  : Cal P w K mg base "_law_whole" 1 r_l_whole 1 := by
  refine cal_ok F sc_l_whole rfl fun fa cdv AA outer ss HH EE X hX C hr xs r hl hR => ?_
  obtain ⟨l_found, rfl, rfl⟩ := hR
  subst hX
  show DSs _ _ _ [.v l_found] _
  exact ds_retD (de_and (de_isi (kit_int l_found) (de_v 0 (pv 0)) rfl T.b_isinstance rfl T.b_int) (fun _ => (de_one (de_not (de_isi (kit_bool l_found) (de_v 0 (pv 0)) rfl T.b_isinstance rfl T.b_bool))))) (.inl (by simp only [m_l_whole, cond_true, cond_false, Bool.not_true, Bool.not_false, goM, goN]; try rfl))
theorem lwhole_of {x : PyData} (h : m_l_whole x = true) : isWhole x = true := whole_mk h
def m_l_cell (l_script : (List Int)) (l_k : Int) : Int := (bif (decide (l_k < (l_script.length : Int))) then (gx l_script l_k) else (let l_number_here_1 := (((l_k * l_k) * (104729 : Int)) + (16807 : Int)); (let p_1 := (bif (decide ((0 : Int) < (l_script.length : Int))) then (let l_number_here_2 := (l_number_here_1 + (((gx l_script ((l_k * (5 : Int)) % (l_script.length : Int))) % (2147483629 : Int)) * (48271 : Int))); l_number_here_2) else l_number_here_1); ((p_1 * (69621 : Int)) % (2147483647 : Int)))))
def r_l_cell (xs : List PyData) (r : Res) : Prop := ∃ (l_script : (List Int)) (l_k : Int), (0 ≤ l_k ∧ l_k ≤ 100) ∧ (l_script.length ≤ 63) ∧ xs = [((eL PyData.int) l_script), (.int l_k)] ∧ r = .v (.int (m_l_cell l_script l_k))
abbrev N_l_cell : List Str := ["_law_script", "_law_k", "_law_number_here"]
theorem sc_l_cell : FnScope N_l_cell ["_law_script", "_law_k"] (defScope s_l_cell) := ⟨rfl, rfl, rfl, by decide +kernel, rfl, by decide +kernel, by decide +kernel⟩
theorem ok_l_cell (F : Def K mg "_law_cell" s_l_cell ["_law_script", "_law_k"]) (T : Txt K mg A)  : Cal P w K mg base "_law_cell" 2 r_l_cell 1 := by
  refine cal_ok F sc_l_cell rfl fun fa cdv AA outer ss HH EE X hX C hr xs r hl hR => ?_
  obtain ⟨l_script, l_k, pre_0, pre_1, rfl, rfl⟩ := hR
  subst hX
  show DSs _ _ _ [.v ((eL PyData.int) l_script), .v (.int l_k), .no] _
  refine ds_ifr (dt_lt (de_v 1 (pv 1)) (de_lenL (de_v 0 (pv 0)) rfl T.b_len)) (fun c_1 => ?_) (fun c_1 => ?_)
  · have q_c_1 := c_1
    try simp only [eqD_t, eqD_f, decide_eq_true_eq, decide_eq_false_iff_not, Bool.not_eq_true', Bool.not_eq_false', Bool.and_eq_true, Bool.or_eq_true, Bool.and_eq_false_iff, Bool.or_eq_false_iff, Bool.not_true, Bool.not_false, Bool.not_not, Decidable.not_not] at q_c_1
    exact ds_retD (de_ixL (de_v 0 (pv 0)) (de_v 1 (pv 1)) (by first | exact ⟨by omega, by omega⟩ | exact inR_mod (by omega) | (unfold inR; simp only [List.length_map, List.length_append, List.length_cons, List.length_nil, List.length_replicate, rng_len, sx_len]; omega))) (.inl (by first | (simp only [m_l_cell, c_1, cond_true, cond_false, Bool.not_true, Bool.not_false, goM, goN]; first | done | rfl) | (simp only [m_l_cell]; rw [c_1]; first | done | rfl) | (simp only [m_l_cell]; (try dsimp only at c_1); (try simp only [c_1, cond_true, cond_false, Bool.not_true, Bool.not_false, goM, goN]); first | done | rfl)))
  have q_c_1 := c_1
  try simp only [eqD_t, eqD_f, decide_eq_true_eq, decide_eq_false_iff_not, Bool.not_eq_true', Bool.not_eq_false', Bool.and_eq_true, Bool.or_eq_true, Bool.and_eq_false_iff, Bool.or_eq_false_iff, Bool.not_true, Bool.not_false, Bool.not_not, Decidable.not_not] at q_c_1
  obtain ⟨l_number_here_1, e_l_number_here_1⟩ : ∃ z : Int, z = (((l_k * l_k) * (104729 : Int)) + (16807 : Int)) := ⟨_, rfl⟩
  refine ds_then (E' := [.v ((eL PyData.int) l_script), .v (.int l_k), .v (.int l_number_here_1)]) (ds_set (x := (.int l_number_here_1)) (ln 2 sc_l_cell.nd) (deC (by subst e_l_number_here_1; rfl) (de_add (de_mul (de_mulA (de_v 1 (pv 1)) (de_v 1 (pv 1)) (by first | exact .inl (.inl ⟨by omega, by omega⟩) | exact .inl (.inr ⟨by omega, by omega⟩))) de_int (.inr ⟨by decide, by decide⟩)) de_int))) ?_
  obtain ⟨p_1, e_p_1⟩ : ∃ z : Int, z = (bif (decide ((0 : Int) < (l_script.length : Int))) then (let l_number_here_2 := (l_number_here_1 + (((gx l_script ((l_k * (5 : Int)) % (l_script.length : Int))) % (2147483629 : Int)) * (48271 : Int))); l_number_here_2) else l_number_here_1) := ⟨_, rfl⟩
  try dsimp only at e_p_1
  refine ds_ifl (E' := [.v ((eL PyData.int) l_script), .v (.int l_k), .v (.int p_1)]) (dt_gt (de_lenL (de_v 0 (pv 0)) rfl T.b_len) de_int) (fun c_2 => ?_) (fun c_2 => ?_) ?_
  · have q_c_2 := c_2
    try simp only [eqD_t, eqD_f, decide_eq_true_eq, decide_eq_false_iff_not, Bool.not_eq_true', Bool.not_eq_false', Bool.and_eq_true, Bool.or_eq_true, Bool.and_eq_false_iff, Bool.or_eq_false_iff, Bool.not_true, Bool.not_false, Bool.not_not, Decidable.not_not] at q_c_2
    obtain ⟨l_number_here_2, e_l_number_here_2⟩ : ∃ z : Int, z = (l_number_here_1 + (((gx l_script ((l_k * (5 : Int)) % (l_script.length : Int))) % (2147483629 : Int)) * (48271 : Int))) := ⟨_, rfl⟩
    refine ds_then (E' := [.v ((eL PyData.int) l_script), .v (.int l_k), .v (.int l_number_here_2)]) (ds_set (x := (.int l_number_here_2)) (ln 2 sc_l_cell.nd) (deC (by subst e_l_number_here_2; rfl) (de_add (de_v 2 (pv 2)) (de_mul (de_mod (de_ixL (de_v 0 (pv 0)) (de_mod (de_mul (de_v 1 (pv 1)) de_int (.inr ⟨by decide, by decide⟩)) (de_lenL (de_v 0 (pv 0)) rfl T.b_len) (by first | omega | assumption | decide)) (by first | exact ⟨by omega, by omega⟩ | exact inR_mod (by omega) | (unfold inR; simp only [List.length_map, List.length_append, List.length_cons, List.length_nil, List.length_replicate, rng_len, sx_len]; omega))) de_int (by decide)) de_int (.inr ⟨by decide, by decide⟩))))) ?_
    exact ds_nil (by subst e_p_1 e_l_number_here_2; (try simp only [c_1, c_2, cond_true, cond_false, Bool.not_true, Bool.not_false, goM, goN]); (show Le _ _); repeat (first | exact Le.nil | refine Le.same ?_ | refine Le.drop ?_))
  · have q_c_2 := c_2
    try simp only [eqD_t, eqD_f, decide_eq_true_eq, decide_eq_false_iff_not, Bool.not_eq_true', Bool.not_eq_false', Bool.and_eq_true, Bool.or_eq_true, Bool.and_eq_false_iff, Bool.or_eq_false_iff, Bool.not_true, Bool.not_false, Bool.not_not, Decidable.not_not] at q_c_2
    exact ds_nil (by subst e_p_1; (try simp only [c_1, c_2, cond_true, cond_false, Bool.not_true, Bool.not_false, goM, goN]); (show Le _ _); repeat (first | exact Le.nil | refine Le.same ?_ | refine Le.drop ?_))
  exact ds_retD (de_mod (de_mul (de_v 2 (pv 2)) de_int (.inr ⟨by decide, by decide⟩)) de_int (by decide)) (.inl (by subst e_l_number_here_1 e_p_1; first | (simp only [m_l_cell, c_1, cond_true, cond_false, Bool.not_true, Bool.not_false, goM, goN]; first | done | rfl) | (simp only [m_l_cell]; rw [c_1]; first | done | rfl) | (simp only [m_l_cell]; (try dsimp only at c_1); (try simp only [c_1, cond_true, cond_false, Bool.not_true, Bool.not_false, goM, goN]); first | done | rfl)))
def m_l_mixed (l_script : (List Int)) (l_k : Int) : Int := ((((m_l_cell l_script l_k) % (1000003 : Int)) * (48271 : Int)) % (2147483629 : Int))
def r_l_mixed (xs : List PyData) (r : Res) : Prop := ∃ (l_script : (List Int)) (l_k : Int), (0 ≤ l_k ∧ l_k ≤ 100) ∧ (l_script.length ≤ 63) ∧ xs = [((eL PyData.int) l_script), (.int l_k)] ∧ r = .v (.int (m_l_mixed l_script l_k))
abbrev N_l_mixed : List Str := ["_law_script", "_law_k"]
theorem sc_l_mixed : FnScope N_l_mixed ["_law_script", "_law_k"] (defScope s_l_mixed) := ⟨rfl, rfl, rfl, by decide +kernel, rfl, by decide +kernel, by decide +kernel⟩
theorem ok_l_mixed (F : Def K mg "_law_mixed" s_l_mixed ["_law_script", "_law_k"]) (T : Txt K mg A) (c_l_cell : Cal P w K mg base "_law_cell" 2 r_l_cell 1) : Cal P w K mg base "_law_mixed" 2 r_l_mixed 2 := by
  refine cal_ok F sc_l_mixed rfl fun fa cdv AA outer ss HH EE X hX C hr xs r hl hR => ?_
  obtain ⟨l_script, l_k, pre_0, pre_1, rfl, rfl⟩ := hR
  subst hX
  show DSs _ _ _ [.v ((eL PyData.int) l_script), .v (.int l_k)] _
  exact ds_retD (de_mod (de_mul (de_mod (de_call (f := "_law_cell") (c_l_cell.at hr) rfl (da_cons (de_v 0 (pv 0)) (da_cons (de_v 1 (pv 1)) da_nil)) ⟨l_script, l_k, (by first | omega | assumption | decide), (by first | omega | assumption | decide), rfl, rfl⟩) de_int (by decide)) de_int (.inr ⟨by decide, by decide⟩)) de_int (by decide)) (.inl (by simp only [m_l_mixed, cond_true, cond_false, Bool.not_true, Bool.not_false, goM, goN]; try rfl))
theorem mixed_nn (sc : List Int) (k : Int) : 0 ≤ m_l_mixed sc k := Int.emod_nonneg _ (by decide)
def l_l_divisor_1  (s_1 : Int × Int) : Go (Int × Int) Empty := (let l_other_1 := (s_1.1 % s_1.2); (.nx (s_1.2, l_other_1)))
def l_l_divisor_1_c  (s_1 : Int × Int) : Bool := (!decide (s_1.2 = (0 : Int)))
def m_l_divisor (l_one : Int) (l_other : Int) : Int := (goN (whileG l_l_divisor_1_c l_l_divisor_1 ((fun (s_1 : Int × Int) => s_1.2.toNat) (l_one, l_other) + 1) (l_one, l_other)) (fun s_2 => (s_2.1.natAbs : Int)))
def r_l_divisor (xs : List PyData) (r : Res) : Prop := ∃ (l_one : Int) (l_other : Int), (0 ≤ l_other) ∧ xs = [(.int l_one), (.int l_other)] ∧ r = .v (.int (m_l_divisor l_one l_other))
abbrev N_l_divisor : List Str := ["_law_one", "_law_other"]
theorem sc_l_divisor : FnScope N_l_divisor ["_law_one", "_law_other"] (defScope s_l_divisor) := ⟨rfl, rfl, rfl, by decide +kernel, rfl, by decide +kernel, by decide +kernel⟩
theorem ok_l_divisor (F : Def K mg "_law_divisor" s_l_divisor ["_law_one", "_law_other"]) (T : Txt K mg A)  : Cal P w K mg base "_law_divisor" 2 r_l_divisor 1 := by
  refine cal_ok F sc_l_divisor rfl fun fa cdv AA outer ss HH EE X hX C hr xs r hl hR => ?_
  obtain ⟨l_one, l_other, pre_0, rfl, rfl⟩ := hR
  subst hX
  show DSs _ _ _ [.v (.int l_one), .v (.int l_other)] _
  refine ds_whileG (fun (s_1 : Int × Int) => [.v (.int s_1.1), .v (.int s_1.2)]) l_l_divisor_1_c l_l_divisor_1 (fun (s_1 : Int × Int) => s_1.2.toNat) (l_one, l_other) (fun (s_1 : Int × Int) => 0 ≤ s_1.2) (fun (s_1 : Int × Int) => 0 ≤ s_1.2) (fun (_ : Empty) _ => False) C (by repeat (first | exact Le.nil | refine Le.same ?_ | refine Le.drop ?_)) (by first | trivial | omega) ?_ ?_ (fun _ h _ => h) ?_ ?_
  · intro s_1 hi_1
    exact (dt_neI (de_v 1 (pv 1)) de_int)
  · intro s_1 hi_1 c_1
    have q_c_1 : (!decide (s_1.2 = (0 : Int))) = true := c_1
    try simp only [eqD_t, eqD_f, decide_eq_true_eq, decide_eq_false_iff_not, Bool.not_eq_true', Bool.not_eq_false', Bool.and_eq_true, Bool.or_eq_true, Bool.and_eq_false_iff, Bool.or_eq_false_iff, Bool.not_true, Bool.not_false, Bool.not_not, Decidable.not_not] at q_c_1
    have t1 := Int.emod_nonneg s_1.1 (show s_1.2 ≠ 0 by omega)
    have t2 := Int.emod_lt_of_pos s_1.1 (show 0 < s_1.2 by omega)
    obtain ⟨l_other_1, e_l_other_1⟩ : ∃ z : Int, z = (s_1.1 % s_1.2) := ⟨_, rfl⟩
    refine ds_then (E' := [.v (.int s_1.2), .v (.int l_other_1)]) (ds_par (x := (.int s_1.2)) (y := (.int l_other_1)) rfl (ln 0 sc_l_divisor.nd) (ln 1 sc_l_divisor.nd) (by decide) (de_v 1 (pv 1)) (deC (by subst e_l_other_1; rfl) (de_mod (de_v 0 (pv 0)) (de_v 1 (pv 1)) (by first | omega | assumption | decide))) rfl rfl (by rfl)) ?_
    exact ds_nil ⟨(s_1.2, l_other_1), (by subst e_l_other_1; simp only [l_l_divisor_1, cond_true, cond_false, Bool.not_true, Bool.not_false, goM, goN]; try rfl), (by repeat (first | exact Le.nil | refine Le.same ?_ | refine Le.drop ?_)), ⟨by first | trivial | omega, by omega⟩⟩
  · intro r o f_1 ho hr_
    exact r.elim
  intro s_2 f_1 hi_1
  exact ds_retD (de_abs (de_v 0 (pv 0)) rfl T.b_abs) (.inl (by first | (simp only [m_l_divisor, f_1, cond_true, cond_false, Bool.not_true, Bool.not_false, goM, goN]; first | done | rfl) | (simp only [m_l_divisor]; rw [f_1]; first | done | rfl) | (simp only [m_l_divisor]; (try dsimp only at f_1); (try simp only [f_1, cond_true, cond_false, Bool.not_true, Bool.not_false, goM, goN]); first | done | rfl)))
theorem m_l_divisor_eq (a b : Int) (hb : 0 ≤ b) : m_l_divisor a b = (Int.gcd a b : Int) := by
  obtain ⟨g, e, h1, h2, h3⟩ := whileG_gcd (c := l_l_divisor_1_c) (f := l_l_divisor_1) (fun _ => rfl) (fun _ => rfl) (b.toNat + 1) a b (by omega) (by omega)
  show goN (whileG l_l_divisor_1_c l_l_divisor_1 (b.toNat + 1) (a, b)) (fun s => (s.1.natAbs : Int)) = _
  rw [e]
  show (g.natAbs : Int) = _
  rw [← h1]
  all_goals omega
structure FrG (f : Int × Int) : Prop where
  t : 0 ≤ f.1 ∧ f.1 < 1000000000000000000
  b : 1 ≤ f.2 ∧ f.2 < 1000000000000000000
  g : Int.gcd f.1 f.2 = 1
theorem FrG.s {f : Int × Int} (h : FrG f) : FrS f := by
  have h1 := h.t
  have h2 := h.b
  exact ⟨⟨h1.1, by omega⟩, by omega, by omega⟩
theorem frG_one {x : Int} (h : 0 ≤ x ∧ x < 1000000000000000000) : FrG (x, 1) := ⟨h, ⟨Int.le_refl 1, (by decide : (1 : Int) < 1000000000000000000)⟩, Int.gcd_one⟩
theorem m3_pos (n : Int) : 0 < gx ([(1 : Int), (9 : Int), (((10 : Int) ^ 18) - (1 : Int))] : (List Int)) (n % (3 : Int)) := by
  obtain h | h | h : n % 3 = 0 ∨ n % 3 = 1 ∨ n % 3 = 2 := by omega
  · rw [h]; decide
  · rw [h]; decide
  · rw [h]; decide
theorem bot_ok (s n : Int) : 1 ≤ (1 : Int) + ((s * (982451653 : Int)) % (gx ([(1 : Int), (9 : Int), (((10 : Int) ^ 18) - (1 : Int))] : (List Int)) (n % (3 : Int)))) ∧ (1 : Int) + ((s * (982451653 : Int)) % (gx ([(1 : Int), (9 : Int), (((10 : Int) ^ 18) - (1 : Int))] : (List Int)) (n % (3 : Int)))) < 1000000000000000000 := by
  obtain h | h | h : n % 3 = 0 ∨ n % 3 = 1 ∨ n % 3 = 2 := by omega
  · rw [h]; show 1 ≤ 1 + (s * 982451653) % 1 ∧ 1 + (s * 982451653) % 1 < 1000000000000000000; omega
  · rw [h]; show 1 ≤ 1 + (s * 982451653) % 9 ∧ 1 + (s * 982451653) % 9 < 1000000000000000000; omega
  · rw [h]; show 1 ≤ 1 + (s * 982451653) % 999999999999999999 ∧ 1 + (s * 982451653) % 999999999999999999 < 1000000000000000000; omega
theorem top_ok {s : Int} (n : Int) (hs : 0 ≤ s ∧ s < 1000000000000000000) : 0 ≤ gx ([s, (s % (10 : Int)), (0 : Int), s] : (List Int)) ((n / (3 : Int)) % (4 : Int)) ∧ gx ([s, (s % (10 : Int)), (0 : Int), s] : (List Int)) ((n / (3 : Int)) % (4 : Int)) < 1000000000000000000 := by
  obtain h | h | h | h : (n / 3) % 4 = 0 ∨ (n / 3) % 4 = 1 ∨ (n / 3) % 4 = 2 ∨ (n / 3) % 4 = 3 := by omega
  · rw [h]; exact hs
  · rw [h]; show 0 ≤ s % 10 ∧ s % 10 < 1000000000000000000; omega
  · rw [h]; show (0 : Int) ≤ 0 ∧ (0 : Int) < 1000000000000000000; omega
  · rw [h]; exact hs
theorem by_ok {t b : Int} (ht : 0 ≤ t) (hb : 1 ≤ b ∧ b < 1000000000000000000) : 1 ≤ m_l_divisor t b ∧ m_l_divisor t b < 1000000000000000000 := by
  rw [m_l_divisor_eq t b (by omega)]
  have hg : 0 < Int.gcd t b := Int.gcd_pos_of_ne_zero_right t (by omega)
  have := Int.le_of_dvd (by omega) (Int.gcd_dvd_right (a := t) (b := b))
  omega
def l_l_fraction_1  (s_1 : Int) (a_1 : Int) : Go (Int) Empty := (let l_top_1 := (((s_1 * (1000003 : Int)) + (a_1 % (1000000007 : Int))) % ((10 : Int) ^ 18)); (.nx l_top_1))
def m_l_fraction (l_script : (List Int)) (l_k : Int) : (Int × Int) := (let l_number_here_1 := (m_l_mixed l_script ((20 : Int) + l_k)); (goN (forG l_l_fraction_1 (pickG l_script (some l_k) (some (120 : Int)) 11) l_number_here_1) (fun s_2 => (let l_bottom_1 := ((1 : Int) + ((s_2 * (982451653 : Int)) % (gx ([(1 : Int), (9 : Int), (((10 : Int) ^ 18) - (1 : Int))] : (List Int)) (l_number_here_1 % (3 : Int))))); (let l_top_2 := (gx ([s_2, (s_2 % (10 : Int)), (0 : Int), s_2] : (List Int)) ((l_number_here_1 / (3 : Int)) % (4 : Int))); (let l_by_1 := (m_l_divisor l_top_2 l_bottom_1); ((l_top_2 / l_by_1), (l_bottom_1 / l_by_1))))))))
def r_l_fraction (xs : List PyData) (r : Res) : Prop := ∃ (l_script : (List Int)) (l_k : Int), (0 ≤ l_k ∧ l_k ≤ 80) ∧ (l_script.length ≤ 63) ∧ xs = [((eL PyData.int) l_script), (.int l_k)] ∧ r = .v ((eP PyData.int PyData.int) (m_l_fraction l_script l_k))
abbrev N_l_fraction : List Str := ["_law_script", "_law_k", "_law_number_here", "_law_top", "_law_cell_here", "_law_bottom", "_law_by"]
theorem sc_l_fraction : FnScope N_l_fraction ["_law_script", "_law_k"] (defScope s_l_fraction) := ⟨rfl, rfl, rfl, by decide +kernel, rfl, by decide +kernel, by decide +kernel⟩
theorem ok_l_fraction (F : Def K mg "_law_fraction" s_l_fraction ["_law_script", "_law_k"]) (T : Txt K mg A) (c_l_mixed : Cal P w K mg base "_law_mixed" 2 r_l_mixed 2) (c_l_divisor : Cal P w K mg base "_law_divisor" 2 r_l_divisor 1) : Cal P w K mg base "_law_fraction" 2 r_l_fraction 3 := by
  refine cal_ok F sc_l_fraction rfl fun fa cdv AA outer ss HH EE X hX C hr xs r hl hR => ?_
  obtain ⟨l_script, l_k, pre_0, pre_1, rfl, rfl⟩ := hR
  subst hX
  show DSs _ _ _ [.v ((eL PyData.int) l_script), .v (.int l_k), .no, .no, .no, .no, .no] _
  obtain ⟨l_number_here_1, e_l_number_here_1⟩ : ∃ z : Int, z = (m_l_mixed l_script ((20 : Int) + l_k)) := ⟨_, rfl⟩
  refine ds_then (E' := [.v ((eL PyData.int) l_script), .v (.int l_k), .v (.int l_number_here_1), .no, .no, .no, .no]) (ds_set (x := (.int l_number_here_1)) (ln 2 sc_l_fraction.nd) (deC (by subst e_l_number_here_1; rfl) (de_call (f := "_law_mixed") (c_l_mixed.at hr) rfl (da_cons (de_v 0 (pv 0)) (da_cons (de_add de_int (de_v 1 (pv 1))) da_nil)) ⟨l_script, ((20 : Int) + l_k), (by first | omega | assumption | exact m3_pos _ | decide), (by first | omega | assumption | exact m3_pos _ | decide), rfl, rfl⟩))) ?_
  have hnn : 0 ≤ l_number_here_1 ∧ l_number_here_1 < 1000000000000000000 := by rw [e_l_number_here_1]; exact ⟨mixed_nn _ _, Int.lt_trans (Int.emod_lt_of_pos _ (by decide)) (by decide)⟩
  refine ds_then (E' := [.v ((eL PyData.int) l_script), .v (.int l_k), .v (.int l_number_here_1), .v (.int l_number_here_1), .no, .no, .no]) (ds_set (x := (.int l_number_here_1)) (ln 3 sc_l_fraction.nd) (de_v 2 (pv 2))) ?_
  refine ds_forG (items := (pickG l_script (some l_k) (some (120 : Int)) 11)) (ea := PyData.int) (fun (s_1 : Int) => [.v ((eL PyData.int) l_script), .v (.int l_k), .v (.int l_number_here_1), .v (.int s_1), .no, .no, .no]) l_l_fraction_1 l_number_here_1 (fun (i_1 : Nat) (s_1 : Int) => 0 ≤ s_1 ∧ s_1 < 1000000000000000000) (fun (s_1 : Int) => 0 ≤ s_1 ∧ s_1 < 1000000000000000000) (fun (_ : Empty) _ => False) C (di_list (DN.toL (f := PyData.int) (xs := (pickG l_script (some l_k) (some (120 : Int)) 11)) (dn_cutSL (de_v 0 (pv 0)) (do_som (de_v 1 (pv 1))) (do_som de_int) (by decide)))) (tg_name (ln 4 sc_l_fraction.nd)) (by repeat (first | exact Le.nil | refine Le.same ?_ | refine Le.drop ?_)) (by exact hnn) ?_ (fun _ h => h) ?_ ?_
  · intro i_1 a_1 s_1 ha_1 hi_1
    refine ⟨[.v ((eL PyData.int) l_script), .v (.int l_k), .v (.int l_number_here_1), .v (.int s_1), .v (.int a_1), .no, .no], rfl, ?_⟩
    obtain ⟨l_top_1, e_l_top_1⟩ : ∃ z : Int, z = (((s_1 * (1000003 : Int)) + (a_1 % (1000000007 : Int))) % ((10 : Int) ^ 18)) := ⟨_, rfl⟩
    refine ds_then (E' := [.v ((eL PyData.int) l_script), .v (.int l_k), .v (.int l_number_here_1), .v (.int l_top_1), .v (.int a_1), .no, .no]) (ds_set (x := (.int l_top_1)) (ln 3 sc_l_fraction.nd) (deC (by subst e_l_top_1; rfl) (de_mod (de_add (de_mul (de_v 3 (pv 3)) de_int (.inr ⟨by decide, by decide⟩)) (de_mod (de_v 4 (pv 4)) de_int (by decide))) (de_powL 18 de_int de_int rfl (by decide) (by first | decide | omega)) (by first | omega | assumption | exact m3_pos _ | decide)))) ?_
    try (have htp : 0 ≤ l_top_1 ∧ l_top_1 < 1000000000000000000 := by rw [e_l_top_1]; exact top_ok _ hi_1)
    exact ds_nil ⟨l_top_1, (by subst e_l_number_here_1 e_l_top_1; simp only [l_l_fraction_1, cond_true, cond_false, Bool.not_true, Bool.not_false, goM, goN]; try rfl), (by repeat (first | exact Le.nil | refine Le.same ?_ | refine Le.drop ?_)), (by (rw [e_l_top_1]; exact ⟨Int.emod_nonneg _ (by decide), Int.emod_lt_of_pos _ (by decide)⟩))⟩
  · intro r o f_1 ho hr_
    exact r.elim
  intro s_2 f_1 hi_1
  obtain ⟨l_bottom_1, e_l_bottom_1⟩ : ∃ z : Int, z = ((1 : Int) + ((s_2 * (982451653 : Int)) % (gx ([(1 : Int), (9 : Int), (((10 : Int) ^ 18) - (1 : Int))] : (List Int)) (l_number_here_1 % (3 : Int))))) := ⟨_, rfl⟩
  refine ds_then (E' := [.v ((eL PyData.int) l_script), .v (.int l_k), .v (.int l_number_here_1), .v (.int s_2), .no, .v (.int l_bottom_1), .no]) (ds_set (x := (.int l_bottom_1)) (ln 5 sc_l_fraction.nd) (deC (by subst e_l_bottom_1; rfl) (de_add de_int (de_mod (de_mul (de_v 3 (pv 3)) de_int (.inr ⟨by decide, by decide⟩)) (de_ixL (DN.toL (f := PyData.int) (xs := ([(1 : Int), (9 : Int), (((10 : Int) ^ 18) - (1 : Int))] : (List Int))) (dn_lst (da_cons de_int (da_cons de_int (da_cons (de_sub (de_powL 18 de_int de_int rfl (by decide) (by first | decide | omega)) de_int) da_nil))))) (de_mod (de_v 2 (pv 2)) de_int (by decide)) (by first | exact ⟨by omega, by omega⟩ | exact inR_mod (by omega) | (unfold inR; simp only [List.length_map, List.length_append, List.length_cons, List.length_nil, List.length_replicate, rng_len, sx_len]; omega))) (by first | omega | assumption | exact m3_pos _ | decide))))) ?_
  have hbt : 1 ≤ l_bottom_1 ∧ l_bottom_1 < 1000000000000000000 := by rw [e_l_bottom_1]; exact bot_ok _ _
  obtain ⟨l_top_2, e_l_top_2⟩ : ∃ z : Int, z = (gx ([s_2, (s_2 % (10 : Int)), (0 : Int), s_2] : (List Int)) ((l_number_here_1 / (3 : Int)) % (4 : Int))) := ⟨_, rfl⟩
  refine ds_then (E' := [.v ((eL PyData.int) l_script), .v (.int l_k), .v (.int l_number_here_1), .v (.int l_top_2), .no, .v (.int l_bottom_1), .no]) (ds_set (x := (.int l_top_2)) (ln 3 sc_l_fraction.nd) (deC (by subst e_l_top_2; rfl) (de_ixL (DN.toL (f := PyData.int) (xs := ([s_2, (s_2 % (10 : Int)), (0 : Int), s_2] : (List Int))) (dn_lst (da_cons (de_v 3 (pv 3)) (da_cons (de_mod (de_v 3 (pv 3)) de_int (by decide)) (da_cons de_int (da_cons (de_v 3 (pv 3)) da_nil)))))) (de_mod (de_div (de_v 2 (pv 2)) de_int ⟨by decide, by decide⟩) de_int (by decide)) (by first | exact ⟨by omega, by omega⟩ | exact inR_mod (by omega) | (unfold inR; simp only [List.length_map, List.length_append, List.length_cons, List.length_nil, List.length_replicate, rng_len, sx_len]; omega))))) ?_
  try (have htp : 0 ≤ l_top_2 ∧ l_top_2 < 1000000000000000000 := by rw [e_l_top_2]; exact top_ok _ hi_1)
  obtain ⟨l_by_1, e_l_by_1⟩ : ∃ z : Int, z = (m_l_divisor l_top_2 l_bottom_1) := ⟨_, rfl⟩
  refine ds_then (E' := [.v ((eL PyData.int) l_script), .v (.int l_k), .v (.int l_number_here_1), .v (.int l_top_2), .no, .v (.int l_bottom_1), .v (.int l_by_1)]) (ds_set (x := (.int l_by_1)) (ln 6 sc_l_fraction.nd) (deC (by subst e_l_by_1; rfl) (de_call (f := "_law_divisor") (c_l_divisor.at hr) rfl (da_cons (de_v 3 (pv 3)) (da_cons (de_v 5 (pv 5)) da_nil)) ⟨l_top_2, l_bottom_1, (by first | omega | assumption | exact m3_pos _ | decide), rfl, rfl⟩))) ?_
  have hby : 1 ≤ l_by_1 ∧ l_by_1 < 1000000000000000000 := by rw [e_l_by_1]; exact by_ok htp.1 hbt
  exact ds_retD (de_tup (da_cons (de_divW (de_v 3 (pv 3)) (de_v 6 (pv 6)) (by exact cdivw (by omega) (by omega))) (da_cons (de_divW (de_v 5 (pv 5)) (de_v 6 (pv 6)) (by exact cdivw (by omega) (by omega))) da_nil))) (.inl (by subst e_l_number_here_1 e_l_bottom_1 e_l_top_2 e_l_by_1; first | (simp only [m_l_fraction, f_1, cond_true, cond_false, Bool.not_true, Bool.not_false, goM, goN]; first | done | rfl) | (simp only [m_l_fraction]; rw [f_1]; first | done | rfl) | (simp only [m_l_fraction]; (try dsimp only at f_1); (try simp only [f_1, cond_true, cond_false, Bool.not_true, Bool.not_false, goM, goN]); first | done | rfl)))
theorem frG_by {t b : Int} (ht : 0 ≤ t ∧ t < 1000000000000000000) (hb : 1 ≤ b ∧ b < 1000000000000000000) : FrG (t / m_l_divisor t b, b / m_l_divisor t b) := by
  rw [m_l_divisor_eq t b (by omega)]
  have hg : 0 < Int.gcd t b := Int.gcd_pos_of_ne_zero_right t (by omega)
  have d1 := Int.gcd_dvd_left (a := t) (b := b)
  have d2 := Int.gcd_dvd_right (a := t) (b := b)
  have hgi : (0 : Int) < (Int.gcd t b : Int) := by omega
  have q1 : 0 ≤ t / (Int.gcd t b : Int) := Int.ediv_nonneg ht.1 (by omega)
  have q2 : t / (Int.gcd t b : Int) ≤ t := Int.ediv_le_self _ ht.1
  have q3 : b / (Int.gcd t b : Int) ≤ b := Int.ediv_le_self _ (by omega)
  have q4 : 1 ≤ b / (Int.gcd t b : Int) := by
    have := Int.le_of_dvd (by omega) d2
    have h5 : (1 : Int) * (Int.gcd t b : Int) ≤ b := by omega
    exact (Int.le_ediv_iff_mul_le hgi).mpr h5
  exact ⟨⟨q1, by show t / (Int.gcd t b : Int) < _; omega⟩, ⟨q4, by show b / (Int.gcd t b : Int) < _; omega⟩, Int.gcd_ediv_gcd_ediv_gcd hg⟩
theorem fraction_ok (sc : List Int) (k : Int) : FrG (m_l_fraction sc k) := by
  unfold m_l_fraction
  simp only
  have hn := mixed_nn sc (20 + k)
  have hn2 : m_l_mixed sc (20 + k) < 1000000000000000000 := by
    have : m_l_mixed sc (20 + k) < 2147483629 := Int.emod_lt_of_pos _ (by decide)
    omega
  generalize m_l_mixed sc (20 + k) = n at *
  obtain ⟨s, e, h1, h2⟩ := forG_inv (f := l_l_fraction_1) (xs := pickG sc (some k) (some (120 : Int)) 11) (fun _ s => 0 ≤ s ∧ s < 1000000000000000000) (fun i a s ha hi => ⟨_, rfl, Int.emod_nonneg _ (by decide), Int.emod_lt_of_pos _ (by decide)⟩) (s := n) ⟨hn, hn2⟩
  rw [goN_nx e]
  exact frG_by (top_ok n ⟨h1, h2⟩) (bot_ok s n)
def l_l_listed_2 (k_l_end : Int) (k_l_lane : Bool) (k_l_seen : (List Int)) (s_2 : Int × (List (List Int))) (a_3 : (T5 Int Int (Int × Int) (Int × Int) Bool)) : Go (Int × (List (List Int))) Empty := (let p_1 := (bif ((decide (a_3.a = (gx k_l_seen (-(1 : Int))))) && (k_l_lane || (!a_3.e))) then (let p_2 := (bif (decide (a_3.b = k_l_end)) then (let l_found_1 := (s_2.1 + (1 : Int)); (l_found_1, s_2.2)) else (let p_3 := (bif (!decide (a_3.b ∈ k_l_seen)) then (let l_begun_here_3 := (s_2.2 ++ [(k_l_seen ++ ([a_3.b] : (List Int)))]); l_begun_here_3) else s_2.2); (s_2.1, p_3))); (p_2.1, p_2.2)) else (s_2.1, s_2.2)); (.nx (p_1.1, p_1.2)))
def l_l_listed_1 (k_l_roads_here : (List (T5 Int Int (Int × Int) (Int × Int) Bool))) (k_l_end : Int) (k_l_lane : Bool) (s_1 : Int × (List (List Int))) : Go (Int × (List (List Int))) Empty := (let l_begun_here_2 := s_1.2.dropLast; let a_2 := s_1.2.getLastD default; (goN (forG (l_l_listed_2 k_l_end k_l_lane a_2) k_l_roads_here (s_1.1, l_begun_here_2)) (fun s_3 => (.nx (s_3.1, s_3.2)))))
def l_l_listed_1_c (k_l_roads_here : (List (T5 Int Int (Int × Int) (Int × Int) Bool))) (k_l_end : Int) (k_l_lane : Bool) (s_1 : Int × (List (List Int))) : Bool := (!eqD s_1.2 ([] : (List (List Int))))
def m_l_listed (l_roads_here : (List (T5 Int Int (Int × Int) (Int × Int) Bool))) (l_start : Int) (l_end : Int) (l_lane : Bool) : Int := (let l_begun_here_1 := ([([l_start] : (List Int))] : (List (List Int))); (goN (whileG (l_l_listed_1_c l_roads_here l_end l_lane) (l_l_listed_1 l_roads_here l_end l_lane) ((fun (s_1 : Int × (List (List Int))) => twC (s_1.1, s_1.2)) ((0 : Int), l_begun_here_1) + 1) ((0 : Int), l_begun_here_1)) (fun s_4 => s_4.1)))
theorem lc_one (e : Int) (lane : Bool) (seen : List Int) (s : CSt) (a : T5 Int Int (Int × Int) (Int × Int) Bool) : l_l_listed_2 e lane seen s a = .nx (if (lane || !a.e) = true then stpC e seen s (a.a, a.b) else s) := by
  unfold l_l_listed_2 stpC
  simp only
  by_cases c0 : (lane || !a.e) = true
  · rw [if_pos c0, c0]
    by_cases c1 : a.a = gx seen (-1) <;> by_cases c2 : a.b = e <;> by_cases c3 : a.b ∈ seen <;> simp [c1, c2, c3]
  · rw [if_neg c0, Bool.eq_false_iff.mpr c0, Bool.and_false]
    rfl
theorem lc_step {e : Int} {lane : Bool} {c0 c : CSt} {seen : List Int} {a : T5 Int Int (Int × Int) (Int × Int) Bool} {i : Nat} (hr : (0 ≤ a.a ∧ a.a < 6) ∧ (0 ≤ a.b ∧ a.b < 6)) (h : BiC c0 seen (((i : Nat) : Int)).toNat c) : ∃ s', l_l_listed_2 e lane seen c a = .nx s' ∧ BiC c0 seen ((((i + 1 : Nat)) : Int)).toNat s' := by
  refine ⟨_, lc_one e lane seen c a, ?_⟩
  have e1 : ((((i + 1 : Nat)) : Int)).toNat = ((i : Nat) : Int).toNat + 1 := by omega
  rw [e1]
  split
  · exact h.step (q := (a.a, a.b)) hr.2
  · exact h.pass
theorem lc_turnE (rs : List (T5 Int Int (Int × Int) (Int × Int) Bool)) (e : Int) (lane : Bool) (s : CSt) : l_l_listed_1 rs e lane s = dfsTC e (usb rs lane) s := by
  unfold l_l_listed_1 dfsTC
  simp only
  rw [goN_nx (forG_pure (g := fun (s' : CSt) (a : T5 Int Int (Int × Int) (Int × Int) Bool) => if (lane || !a.e) = true then stpC e (s.2.getLastD default) s' (a.a, a.b) else s') _ (fun a _ s => lc_one e lane _ s a) _)]
  exact congrArg Go.nx (usb_foldC (stpC e _) rs lane _)
theorem lc_turn {rs : List (T5 Int Int (Int × Int) (Int × Int) Bool)} {e : Int} {lane : Bool} {s : CSt} (h1 : rs.length ≤ 13) (h2 : ∀ r ∈ rs, (0 ≤ r.a ∧ r.a < 6) ∧ (0 ≤ r.b ∧ r.b < 6)) (hs : BgC s) (hc : ¬ s.2 = []) : ∃ s', l_l_listed_1 rs e lane s = .nx s' ∧ BgC s' ∧ twC s' < twC s := by
  rw [lc_turnE]
  exact turnC (usb_us h1 fun r hr => (h2 r hr).2) hs hc
def r_l_listed (xs : List PyData) (r : Res) : Prop := ∃ (l_roads_here : (List (T5 Int Int (Int × Int) (Int × Int) Bool))) (l_start : Int) (l_end : Int) (l_lane : Bool), (l_roads_here.length ≤ 13) ∧ (∀ r ∈ l_roads_here, (0 ≤ r.a ∧ r.a < 6) ∧ (0 ≤ r.b ∧ r.b < 6)) ∧ (0 ≤ l_start ∧ l_start < 6) ∧ xs = [((eL (eT5 PyData.int PyData.int (eP PyData.int PyData.int) (eP PyData.int PyData.int) PyData.bool)) l_roads_here), (.int l_start), (.int l_end), (.bool l_lane)] ∧ r = .v (.int (m_l_listed l_roads_here l_start l_end l_lane))
abbrev N_l_listed : List Str := ["_law_roads_here", "_law_start", "_law_end", "_law_lane", "_law_found", "_law_begun_here", "_law_seen", "_law_road_here"]
theorem sc_l_listed : FnScope N_l_listed ["_law_roads_here", "_law_start", "_law_end", "_law_lane"] (defScope s_l_listed) := ⟨rfl, rfl, rfl, by decide +kernel, rfl, by decide +kernel, by decide +kernel⟩
theorem ok_l_listed (F : Def K mg "_law_listed" s_l_listed ["_law_roads_here", "_law_start", "_law_end", "_law_lane"]) (T : Txt K mg A)  : Cal P w K mg base "_law_listed" 4 r_l_listed 1 := by
  refine cal_ok F sc_l_listed rfl fun fa cdv AA outer ss HH EE X hX C hr xs r hl hR => ?_
  obtain ⟨l_roads_here, l_start, l_end, l_lane, pre_0, pre_1, pre_2, rfl, rfl⟩ := hR
  subst hX
  show DSs _ _ _ [.v ((eL (eT5 PyData.int PyData.int (eP PyData.int PyData.int) (eP PyData.int PyData.int) PyData.bool)) l_roads_here), .v (.int l_start), .v (.int l_end), .v (.bool l_lane), .no, .no, .no, .no] _
  have hrl := pre_0
  refine ds_then (E' := [.v ((eL (eT5 PyData.int PyData.int (eP PyData.int PyData.int) (eP PyData.int PyData.int) PyData.bool)) l_roads_here), .v (.int l_start), .v (.int l_end), .v (.bool l_lane), .v (.int (0 : Int)), .no, .no, .no]) (ds_set (x := (.int (0 : Int))) (ln 4 sc_l_listed.nd) de_int) ?_
  obtain ⟨l_begun_here_1, e_l_begun_here_1⟩ : ∃ z : (List (List Int)), z = ([([l_start] : (List Int))] : (List (List Int))) := ⟨_, rfl⟩
  refine ds_then (E' := [.v ((eL (eT5 PyData.int PyData.int (eP PyData.int PyData.int) (eP PyData.int PyData.int) PyData.bool)) l_roads_here), .v (.int l_start), .v (.int l_end), .v (.bool l_lane), .v (.int (0 : Int)), .o (oL (eL PyData.int) l_begun_here_1), .no, .no]) (ds_setN (t := oL (eL PyData.int) l_begun_here_1) (ln 5 sc_l_listed.nd) (dnC (by subst e_l_begun_here_1; rfl) (dn_lst (da_cons (DN.toL (f := PyData.int) (xs := ([l_start] : (List Int))) (dn_lst (da_cons (de_v 1 (pv 1)) da_nil))) da_nil)))) ?_
  refine ds_whileG (fun (s_1 : Int × (List (List Int))) => [.v ((eL (eT5 PyData.int PyData.int (eP PyData.int PyData.int) (eP PyData.int PyData.int) PyData.bool)) l_roads_here), .v (.int l_start), .v (.int l_end), .v (.bool l_lane), .v (.int s_1.1), .o (oL (eL PyData.int) s_1.2), .no, .no]) (l_l_listed_1_c l_roads_here l_end l_lane) (l_l_listed_1 l_roads_here l_end l_lane) (fun (s_1 : Int × (List (List Int))) => twC (s_1.1, s_1.2)) ((0 : Int), l_begun_here_1) (fun (s_1 : Int × (List (List Int))) => BgC (s_1.1, s_1.2)) (fun (s_1 : Int × (List (List Int))) => BgC (s_1.1, s_1.2)) (fun (_ : Empty) _ => False) C (by repeat (first | exact Le.nil | refine Le.same ?_ | refine Le.drop ?_)) (by subst e_l_begun_here_1; exact bgC_0 pre_2) ?_ ?_ (fun _ h _ => h) ?_ ?_
  · intro s_1 hi_1
    exact (dt_borrowS 5 (dat_L (eL PyData.int)) rfl (dt_neU (x := s_1.2) (y := ([] : (List (List Int)))) hr.units (eqE_L (eqE_L eqE_int)) (de_v 5 (pv 5)) (DN.toL (f := (eL PyData.int)) (xs := ([] : (List (List Int)))) (dn_lst da_nil))))
  · intro s_1 hi_1 c_1
    have q_c_1 : (!eqD s_1.2 ([] : (List (List Int)))) = true := c_1
    try simp only [eqD_t, eqD_f, decide_eq_true_eq, decide_eq_false_iff_not, Bool.not_eq_true', Bool.not_eq_false', Bool.and_eq_true, Bool.or_eq_true, Bool.and_eq_false_iff, Bool.or_eq_false_iff, Bool.not_true, Bool.not_false, Bool.not_not, Decidable.not_not] at q_c_1
    obtain ⟨l_begun_here_2, a_2, e_l_begun_here_2⟩ : ∃ (u : (List (List Int))) (z : (List Int)), s_1.2 = u ++ [z] := (by exact snoc_of (by assumption))
    rw [e_l_begun_here_2]
    refine ds_then (E' := [.v ((eL (eT5 PyData.int PyData.int (eP PyData.int PyData.int) (eP PyData.int PyData.int) PyData.bool)) l_roads_here), .v (.int l_start), .v (.int l_end), .v (.bool l_lane), .v (.int s_1.1), .o (oL (eL PyData.int) l_begun_here_2), .v ((eL PyData.int) a_2), .no]) (ds_pop (f := (eL PyData.int)) (xs := l_begun_here_2) (v := a_2) (fun _ => pv 5) (tg_name (ln 6 sc_l_listed.nd)) rfl) ?_
    refine ds_forG (items := l_roads_here) (ea := (eT5 PyData.int PyData.int (eP PyData.int PyData.int) (eP PyData.int PyData.int) PyData.bool)) (fun (s_2 : Int × (List (List Int))) => [.v ((eL (eT5 PyData.int PyData.int (eP PyData.int PyData.int) (eP PyData.int PyData.int) PyData.bool)) l_roads_here), .v (.int l_start), .v (.int l_end), .v (.bool l_lane), .v (.int s_2.1), .o (oL (eL PyData.int) s_2.2), .v ((eL PyData.int) a_2), .no]) (l_l_listed_2 l_end l_lane a_2) (s_1.1, l_begun_here_2) (fun (i_2 : Nat) (s_2 : Int × (List (List Int))) => BiC (s_1.1, l_begun_here_2) a_2 (i_2 : Int).toNat (s_2.1, s_2.2)) (fun (s_2 : Int × (List (List Int))) => BiC (s_1.1, l_begun_here_2) a_2 ((l_roads_here).length : Int).toNat (s_2.1, s_2.2)) (fun (_ : Empty) _ => False) C (di_list (de_v 0 (pv 0))) (tg_name (ln 7 sc_l_listed.nd)) (by repeat (first | exact Le.nil | refine Le.same ?_ | refine Le.drop ?_)) (by exact biC_0 (by rw [← e_l_begun_here_2]; exact hi_1)) ?_ (fun _ h => h) ?_ ?_
    · intro i_2 a_3 s_2 ha_2 hi_2
      refine ⟨[.v ((eL (eT5 PyData.int PyData.int (eP PyData.int PyData.int) (eP PyData.int PyData.int) PyData.bool)) l_roads_here), .v (.int l_start), .v (.int l_end), .v (.bool l_lane), .v (.int s_2.1), .o (oL (eL PyData.int) s_2.2), .v ((eL PyData.int) a_2), .v ((eT5 PyData.int PyData.int (eP PyData.int PyData.int) (eP PyData.int PyData.int) PyData.bool) a_3)], rfl, ?_⟩
      have hpz := hi_2
      have hr := pre_1 _ (List.mem_of_getElem? ha_2)
      have hli := get_lt ha_2
      obtain ⟨p_1, e_p_1⟩ : ∃ z : Int × (List (List Int)), z = (bif ((decide (a_3.a = (gx a_2 (-(1 : Int))))) && (l_lane || (!a_3.e))) then (let p_2 := (bif (decide (a_3.b = l_end)) then (let l_found_1 := (s_2.1 + (1 : Int)); (l_found_1, s_2.2)) else (let p_3 := (bif (!decide (a_3.b ∈ a_2)) then (let l_begun_here_3 := (s_2.2 ++ [(a_2 ++ ([a_3.b] : (List Int)))]); l_begun_here_3) else s_2.2); (s_2.1, p_3))); (p_2.1, p_2.2)) else (s_2.1, s_2.2)) := ⟨_, rfl⟩
      try dsimp only at e_p_1
      refine ds_ifl (E' := [.v ((eL (eT5 PyData.int PyData.int (eP PyData.int PyData.int) (eP PyData.int PyData.int) PyData.bool)) l_roads_here), .v (.int l_start), .v (.int l_end), .v (.bool l_lane), .v (.int p_1.1), .o (oL (eL PyData.int) p_1.2), .v ((eL PyData.int) a_2), .v ((eT5 PyData.int PyData.int (eP PyData.int PyData.int) (eP PyData.int PyData.int) PyData.bool) a_3)]) (DW.toT (dw_and (dt_eqI (de_it (de_v 7 (pv 7)) de_int) (de_ixL (de_v 6 (pv 6)) (de_neg de_int) (by first | exact ⟨by have := hpz.pos; omega, by have := hpz.pos; omega⟩ | (first | exact ⟨by omega, by omega⟩ | exact inR_mod (by omega) | (unfold inR; simp only [List.length_map, List.length_append, List.length_cons, List.length_nil, List.length_replicate, rng_len, sx_len]; omega))))) (fun _ => (dw_and1 (DW.toT (dw_or (dt_val (de_v 3 (pv 3))) (fun _ => (dw_or1 (dt_not (dt_val (de_it (de_v 7 (pv 7)) de_int))))))))))) (fun c_2 => ?_) (fun c_2 => ?_) ?_
      · have q_c_2 := c_2
        try simp only [eqD_t, eqD_f, decide_eq_true_eq, decide_eq_false_iff_not, Bool.not_eq_true', Bool.not_eq_false', Bool.and_eq_true, Bool.or_eq_true, Bool.and_eq_false_iff, Bool.or_eq_false_iff, Bool.not_true, Bool.not_false, Bool.not_not, Decidable.not_not] at q_c_2
        obtain ⟨p_2, e_p_2⟩ : ∃ z : Int × (List (List Int)), z = (bif (decide (a_3.b = l_end)) then (let l_found_1 := (s_2.1 + (1 : Int)); (l_found_1, s_2.2)) else (let p_3 := (bif (!decide (a_3.b ∈ a_2)) then (let l_begun_here_3 := (s_2.2 ++ [(a_2 ++ ([a_3.b] : (List Int)))]); l_begun_here_3) else s_2.2); (s_2.1, p_3))) := ⟨_, rfl⟩
        try dsimp only at e_p_2
        refine ds_ifl (E' := [.v ((eL (eT5 PyData.int PyData.int (eP PyData.int PyData.int) (eP PyData.int PyData.int) PyData.bool)) l_roads_here), .v (.int l_start), .v (.int l_end), .v (.bool l_lane), .v (.int p_2.1), .o (oL (eL PyData.int) p_2.2), .v ((eL PyData.int) a_2), .v ((eT5 PyData.int PyData.int (eP PyData.int PyData.int) (eP PyData.int PyData.int) PyData.bool) a_3)]) (dt_eqI (de_it (de_v 7 (pv 7)) de_int) (de_v 2 (pv 2))) (fun c_3 => ?_) (fun c_3 => ?_) ?_
        · have q_c_3 := c_3
          try simp only [eqD_t, eqD_f, decide_eq_true_eq, decide_eq_false_iff_not, Bool.not_eq_true', Bool.not_eq_false', Bool.and_eq_true, Bool.or_eq_true, Bool.and_eq_false_iff, Bool.or_eq_false_iff, Bool.not_true, Bool.not_false, Bool.not_not, Decidable.not_not] at q_c_3
          obtain ⟨l_found_1, e_l_found_1⟩ : ∃ z : Int, z = (s_2.1 + (1 : Int)) := ⟨_, rfl⟩
          refine ds_then (E' := [.v ((eL (eT5 PyData.int PyData.int (eP PyData.int PyData.int) (eP PyData.int PyData.int) PyData.bool)) l_roads_here), .v (.int l_start), .v (.int l_end), .v (.bool l_lane), .v (.int l_found_1), .o (oL (eL PyData.int) s_2.2), .v ((eL PyData.int) a_2), .v ((eT5 PyData.int PyData.int (eP PyData.int PyData.int) (eP PyData.int PyData.int) PyData.bool) a_3)]) (ds_aug ip_add (ln 4 sc_l_listed.nd) de_int rfl (by subst e_l_found_1; rfl)) ?_
          exact ds_nil (by subst e_p_2 e_l_found_1; (try simp only [e_l_begun_here_2, c_2, c_3, cond_true, cond_false, Bool.not_true, Bool.not_false, goM, goN]); (show Le _ _); repeat (first | exact Le.nil | refine Le.same ?_ | refine Le.drop ?_))
        · have q_c_3 := c_3
          try simp only [eqD_t, eqD_f, decide_eq_true_eq, decide_eq_false_iff_not, Bool.not_eq_true', Bool.not_eq_false', Bool.and_eq_true, Bool.or_eq_true, Bool.and_eq_false_iff, Bool.or_eq_false_iff, Bool.not_true, Bool.not_false, Bool.not_not, Decidable.not_not] at q_c_3
          obtain ⟨p_3, e_p_3⟩ : ∃ z : (List (List Int)), z = (bif (!decide (a_3.b ∈ a_2)) then (let l_begun_here_3 := (s_2.2 ++ [(a_2 ++ ([a_3.b] : (List Int)))]); l_begun_here_3) else s_2.2) := ⟨_, rfl⟩
          try dsimp only at e_p_3
          refine ds_ifl (E' := [.v ((eL (eT5 PyData.int PyData.int (eP PyData.int PyData.int) (eP PyData.int PyData.int) PyData.bool)) l_roads_here), .v (.int l_start), .v (.int l_end), .v (.bool l_lane), .v (.int s_2.1), .o (oL (eL PyData.int) p_3), .v ((eL PyData.int) a_2), .v ((eT5 PyData.int PyData.int (eP PyData.int PyData.int) (eP PyData.int PyData.int) PyData.bool) a_3)]) (dt_niI (de_it (de_v 7 (pv 7)) de_int) (de_v 6 (pv 6))) (fun c_4 => ?_) (fun c_4 => ?_) ?_
          · have q_c_4 := c_4
            try simp only [eqD_t, eqD_f, decide_eq_true_eq, decide_eq_false_iff_not, Bool.not_eq_true', Bool.not_eq_false', Bool.and_eq_true, Bool.or_eq_true, Bool.and_eq_false_iff, Bool.or_eq_false_iff, Bool.not_true, Bool.not_false, Bool.not_not, Decidable.not_not] at q_c_4
            obtain ⟨l_begun_here_3, e_l_begun_here_3⟩ : ∃ z : (List (List Int)), z = (s_2.2 ++ [(a_2 ++ ([a_3.b] : (List Int)))]) := ⟨_, rfl⟩
            refine ds_then (E' := [.v ((eL (eT5 PyData.int PyData.int (eP PyData.int PyData.int) (eP PyData.int PyData.int) PyData.bool)) l_roads_here), .v (.int l_start), .v (.int l_end), .v (.bool l_lane), .v (.int s_2.1), .o (oL (eL PyData.int) l_begun_here_3), .v ((eL PyData.int) a_2), .v ((eT5 PyData.int PyData.int (eP PyData.int PyData.int) (eP PyData.int PyData.int) PyData.bool) a_3)]) (ds_appendL (f := (eL PyData.int)) (v := (a_2 ++ ([a_3.b] : (List Int)))) (xs := s_2.2) (fun _ => pv 5) (DN.toL (f := PyData.int) (xs := (a_2 ++ ([a_3.b] : (List Int)))) (dn_catL (de_v 6 (pv 6)) (DN.toL (f := PyData.int) (xs := ([a_3.b] : (List Int))) (dn_lst (da_cons (de_it (de_v 7 (pv 7)) de_int) da_nil))) (by rw [sizeLine_eq]; first | omega | (have h5 := hpz.le; simp only [List.length_cons, List.length_nil]; omega) | (simp only [List.length_append, List.length_cons, List.length_nil, List.length_map, List.length_replicate]; omega)))) rfl (by rw [sizeLine_eq]; (exact Nat.lt_of_le_of_lt (hpz.l1 (by omega)) (by decide))) (by subst e_l_begun_here_3; rfl)) ?_
            exact ds_nil (by subst e_p_3 e_l_begun_here_3; (try simp only [e_l_begun_here_2, c_2, c_3, c_4, cond_true, cond_false, Bool.not_true, Bool.not_false, goM, goN]); (show Le _ _); repeat (first | exact Le.nil | refine Le.same ?_ | refine Le.drop ?_))
          · have q_c_4 := c_4
            try simp only [eqD_t, eqD_f, decide_eq_true_eq, decide_eq_false_iff_not, Bool.not_eq_true', Bool.not_eq_false', Bool.and_eq_true, Bool.or_eq_true, Bool.and_eq_false_iff, Bool.or_eq_false_iff, Bool.not_true, Bool.not_false, Bool.not_not, Decidable.not_not] at q_c_4
            exact ds_nil (by subst e_p_3; (try simp only [e_l_begun_here_2, c_2, c_3, c_4, cond_true, cond_false, Bool.not_true, Bool.not_false, goM, goN]); (show Le _ _); repeat (first | exact Le.nil | refine Le.same ?_ | refine Le.drop ?_))
          exact ds_nil (by subst e_p_2 e_p_3; (try simp only [e_l_begun_here_2, c_2, c_3, cond_true, cond_false, Bool.not_true, Bool.not_false, goM, goN]); (show Le _ _); repeat (first | exact Le.nil | refine Le.same ?_ | refine Le.drop ?_))
        exact ds_nil (by subst e_p_1 e_p_2; (try simp only [e_l_begun_here_2, c_2, cond_true, cond_false, Bool.not_true, Bool.not_false, goM, goN]); (show Le _ _); repeat (first | exact Le.nil | refine Le.same ?_ | refine Le.drop ?_))
      · have q_c_2 := c_2
        try simp only [eqD_t, eqD_f, decide_eq_true_eq, decide_eq_false_iff_not, Bool.not_eq_true', Bool.not_eq_false', Bool.and_eq_true, Bool.or_eq_true, Bool.and_eq_false_iff, Bool.or_eq_false_iff, Bool.not_true, Bool.not_false, Bool.not_not, Decidable.not_not] at q_c_2
        exact ds_nil (by subst e_p_1; (try simp only [e_l_begun_here_2, c_2, cond_true, cond_false, Bool.not_true, Bool.not_false, goM, goN]); (show Le _ _); repeat (first | exact Le.nil | refine Le.same ?_ | refine Le.drop ?_))
      exact ds_nil ⟨(p_1.1, p_1.2), (by subst e_l_begun_here_1 e_p_1; first | (simp only [l_l_listed_2, e_l_begun_here_2, cond_true, cond_false, Bool.not_true, Bool.not_false, goM, goN, List.dropLast_concat, List.getLastD_concat]; first | done | rfl) | (simp only [l_l_listed_2]; rw [e_l_begun_here_2]; first | done | rfl) | (simp only [l_l_listed_2]; (try dsimp only at e_l_begun_here_2); (try simp only [e_l_begun_here_2, List.dropLast_concat, List.getLastD_concat, cond_true, cond_false, Bool.not_true, Bool.not_false, goM, goN]); first | done | rfl)), (by repeat (first | exact Le.nil | refine Le.same ?_ | refine Le.drop ?_)), (by have hz := go_inv (v := (p_1.1, p_1.2)) (lc_step hr hi_2) (by subst e_l_begun_here_1 e_p_1; first | (simp only [l_l_listed_2, e_l_begun_here_2, cond_true, cond_false, Bool.not_true, Bool.not_false, goM, goN, List.dropLast_concat, List.getLastD_concat]; first | done | rfl) | (simp only [l_l_listed_2]; rw [e_l_begun_here_2]; first | done | rfl) | (simp only [l_l_listed_2]; (try dsimp only at e_l_begun_here_2); (try simp only [e_l_begun_here_2, List.dropLast_concat, List.getLastD_concat, cond_true, cond_false, Bool.not_true, Bool.not_false, goM, goN]); first | done | rfl)); exact hz)⟩
    · intro r o f_1 ho hr_
      exact r.elim
    intro s_3 f_1 hi_2
    exact ds_nil ⟨(s_3.1, s_3.2), (by subst e_l_begun_here_1; first | (simp only [l_l_listed_1, e_l_begun_here_2, f_1, cond_true, cond_false, Bool.not_true, Bool.not_false, goM, goN, List.dropLast_concat, List.getLastD_concat]; first | done | rfl) | (simp only [l_l_listed_1]; rw [e_l_begun_here_2, f_1]; first | done | rfl) | (simp only [l_l_listed_1]; (try dsimp only at e_l_begun_here_2); (try dsimp only at f_1); (try simp only [e_l_begun_here_2, List.dropLast_concat, List.getLastD_concat, cond_true, cond_false, Bool.not_true, Bool.not_false, goM, goN]); (try simp only [f_1, List.dropLast_concat, List.getLastD_concat, cond_true, cond_false, Bool.not_true, Bool.not_false, goM, goN]); first | done | rfl)), (by repeat (first | exact Le.nil | refine Le.same ?_ | refine Le.drop ?_)), (by have hz := go_inv (v := (s_3.1, s_3.2)) (lc_turn (rs := l_roads_here) (e := l_end) (lane := l_lane) pre_0 pre_1 hi_1 (by assumption)) (by subst e_l_begun_here_1; first | (simp only [l_l_listed_1, e_l_begun_here_2, f_1, cond_true, cond_false, Bool.not_true, Bool.not_false, goM, goN, List.dropLast_concat, List.getLastD_concat]; first | done | rfl) | (simp only [l_l_listed_1]; rw [e_l_begun_here_2, f_1]; first | done | rfl) | (simp only [l_l_listed_1]; (try dsimp only at e_l_begun_here_2); (try dsimp only at f_1); (try simp only [e_l_begun_here_2, List.dropLast_concat, List.getLastD_concat, cond_true, cond_false, Bool.not_true, Bool.not_false, goM, goN]); (try simp only [f_1, List.dropLast_concat, List.getLastD_concat, cond_true, cond_false, Bool.not_true, Bool.not_false, goM, goN]); first | done | rfl)); exact ⟨hz.1, by rw [← e_l_begun_here_2]; exact hz.2⟩)⟩
  · intro r o f_2 ho hr_
    exact r.elim
  intro s_4 f_2 hi_1
  exact ds_retD (de_v 4 (pv 4)) (.inl (by subst e_l_begun_here_1; first | (simp only [m_l_listed, f_2, cond_true, cond_false, Bool.not_true, Bool.not_false, goM, goN]; first | done | rfl) | (simp only [m_l_listed]; rw [f_2]; first | done | rfl) | (simp only [m_l_listed]; (try dsimp only at f_2); (try simp only [f_2, cond_true, cond_false, Bool.not_true, Bool.not_false, goM, goN]); first | done | rfl)))
theorem listed_cnt (rs : List (T5 Int Int (Int × Int) (Int × Int) Bool)) (s e : Int) (lane : Bool) : m_l_listed rs s e lane = cnt (usb rs lane) s e := by
  unfold m_l_listed cnt
  simp only
  have e1 : l_l_listed_1_c rs e lane = dfsCC := funext fun s => by
    unfold l_l_listed_1_c dfsCC
    by_cases c : s.2 = [] <;> simp [eqD, c]
  have e2 : l_l_listed_1 rs e lane = dfsTC e (usb rs lane) := funext fun s => lc_turnE rs e lane s
  rw [e1, e2]
def m_l_many (l_roads_here : (List (T5 Int Int (Int × Int) (Int × Int) Bool))) (l_wishes_here : (List (T4 Int Int (Int × Int) Bool))) : Int := ((l_wishes_here.map (fun (a_1 : (T4 Int Int (Int × Int) Bool)) => (m_l_listed l_roads_here a_1.a a_1.b a_1.d))).sum)
def r_l_many (xs : List PyData) (r : Res) : Prop := ∃ (l_roads_here : (List (T5 Int Int (Int × Int) (Int × Int) Bool))) (l_wishes_here : (List (T4 Int Int (Int × Int) Bool))), (l_roads_here.length ≤ 13) ∧ (∀ r ∈ l_roads_here, (0 ≤ r.a ∧ r.a < 6) ∧ (0 ≤ r.b ∧ r.b < 6)) ∧ (∀ w ∈ l_wishes_here, 0 ≤ w.a ∧ w.a < 6) ∧ (l_wishes_here.length ≤ 3) ∧ xs = [((eL (eT5 PyData.int PyData.int (eP PyData.int PyData.int) (eP PyData.int PyData.int) PyData.bool)) l_roads_here), ((eL (eT4 PyData.int PyData.int (eP PyData.int PyData.int) PyData.bool)) l_wishes_here)] ∧ r = .v (.int (m_l_many l_roads_here l_wishes_here))
abbrev N_l_many : List Str := ["_law_roads_here", "_law_wishes_here", "_law_wish"]
theorem sc_l_many : FnScope N_l_many ["_law_roads_here", "_law_wishes_here"] (defScope s_l_many) := ⟨rfl, rfl, rfl, by decide +kernel, rfl, by decide +kernel, by decide +kernel⟩
theorem ok_l_many (F : Def K mg "_law_many" s_l_many ["_law_roads_here", "_law_wishes_here"]) (T : Txt K mg A) (c_l_listed : Cal P w K mg base "_law_listed" 4 r_l_listed 1) : Cal P w K mg base "_law_many" 2 r_l_many 2 := by
  refine cal_ok F sc_l_many rfl fun fa cdv AA outer ss HH EE X hX C hr xs r hl hR => ?_
  obtain ⟨l_roads_here, l_wishes_here, pre_0, pre_1, pre_2, pre_3, rfl, rfl⟩ := hR
  subst hX
  show DSs _ _ _ [.v ((eL (eT5 PyData.int PyData.int (eP PyData.int PyData.int) (eP PyData.int PyData.int) PyData.bool)) l_roads_here), .v ((eL (eT4 PyData.int PyData.int (eP PyData.int PyData.int) PyData.bool)) l_wishes_here), .no] _
  exact ds_retD (de_sum rfl (DN.toL (f := PyData.int) (xs := (l_wishes_here.map (fun (a_1 : (T4 Int Int (Int × Int) Bool)) => (m_l_listed l_roads_here a_1.a a_1.b a_1.d)))) (dn_lc (ea := (eT4 PyData.int PyData.int (eP PyData.int PyData.int) PyData.bool)) (eb := PyData.int) (items := l_wishes_here) (fun (a_1 : (T4 Int Int (Int × Int) Bool)) => (m_l_listed l_roads_here a_1.a a_1.b a_1.d)) rfl sc_l_many.nd (di_list (de_v 1 (pv 1))) (blkOk_by (N := N_l_many) (sc := defScope s_l_many) (own := [("_law_wish", 2)]) (by decide +kernel)) (fun _ _ _ _ _ => (tg_name (ln 2 sc_l_many.nd))) (by rw [sizeLine_eq]; first | omega | (simp only [List.length_map, List.length_append, List.length_cons, List.length_nil, List.length_zip, rng_len]; omega)) (fun a_1 h_a_1 => ⟨[.v ((eL (eT5 PyData.int PyData.int (eP PyData.int PyData.int) (eP PyData.int PyData.int) PyData.bool)) l_roads_here), .v ((eL (eT4 PyData.int PyData.int (eP PyData.int PyData.int) PyData.bool)) l_wishes_here), .v ((eT4 PyData.int PyData.int (eP PyData.int PyData.int) PyData.bool) a_1)], rfl, fun _ _ _ _ _ => (de_call (f := "_law_listed") (c_l_listed.at hr) rfl (da_cons (de_v 0 (pv 0)) (da_cons (de_it (de_v 2 (pv 2)) de_int) (da_cons (de_it (de_v 2 (pv 2)) de_int) (da_cons (de_it (de_v 2 (pv 2)) de_int) da_nil)))) ⟨l_roads_here, a_1.a, a_1.b, a_1.d, (by first | omega | assumption | exact pre_2 _ (by assumption) | decide), (by first | omega | assumption | exact pre_2 _ (by assumption) | decide), (by first | omega | assumption | exact pre_2 _ (by assumption) | decide), rfl, rfl⟩)⟩))) rfl T.b_sum) (.inl (by simp only [m_l_many, cond_true, cond_false, Bool.not_true, Bool.not_false, goM, goN]; try rfl))
def l_l_wishes_1 (k_l_script : (List Int)) (k_l_many_here : Int) (s_1 : (List (T4 Int Int (Int × Int) Bool))) (a_1 : Int) : Go ((List (T4 Int Int (Int × Int) Bool))) Empty := (let l_cell_here_1 := (m_l_mixed k_l_script ((1 : Int) + a_1)); (let l_start_1 := (l_cell_here_1 % k_l_many_here); (let l_end_1 := (((l_start_1 + (1 : Int)) + ((l_cell_here_1 / (6 : Int)) % (k_l_many_here - (1 : Int)))) % k_l_many_here); (let l_amount_1 := (m_l_fraction k_l_script ((30 : Int) + a_1)); (let p_1 := (bif (decide (l_amount_1.1 = (0 : Int))) then (let l_amount_2 := (((1 : Int) + (l_cell_here_1 % (9 : Int))), (1 : Int)); l_amount_2) else l_amount_1); (let l_wishes_here_2 := (s_1 ++ [(⟨l_start_1, l_end_1, p_1, (decide (((l_cell_here_1 / (40 : Int)) % (2 : Int)) = (1 : Int)))⟩ : (T4 Int Int (Int × Int) Bool))]); (.nx l_wishes_here_2)))))))
def m_l_wishes (l_script : (List Int)) (l_many_here : Int) : (List (T4 Int Int (Int × Int) Bool)) := (let l_wishes_here_1 := ([] : (List (T4 Int Int (Int × Int) Bool))); (goN (forG (l_l_wishes_1 l_script l_many_here) (rng 0 ((1 : Int) + (((m_l_cell l_script (0 : Int)) / (6 : Int)) % (3 : Int))).toNat) l_wishes_here_1) (fun s_2 => s_2)))
structure WtI (m : Int) (n : Nat) (ws : List (T4 Int Int Fr Bool)) : Prop where
  len : ws.length = n
  each : ∀ w ∈ ws, (0 ≤ w.a ∧ w.a < m) ∧ (0 ≤ w.b ∧ w.b < m) ∧ w.a ≠ w.b ∧ FrG w.c ∧ 0 < w.c.1
theorem ne_mod {m s x : Int} (hs : 0 ≤ s ∧ s < m) (hx : 0 ≤ x ∧ x < m - 1) : (s + 1 + x) % m ≠ s := by
  by_cases c : s + 1 + x < m
  · rw [Int.emod_eq_of_lt (by omega) c]; omega
  · have h := Int.add_emod_right (s + 1 + x - m) m
    rw [show s + 1 + x - m + m = s + 1 + x by omega] at h
    rw [h, Int.emod_eq_of_lt (by omega) (by omega)]; omega
theorem place_in {a m : Int} (h : 0 ≤ a ∧ a < m) : m_is_place (.int a) m = true := by
  show (true && (decide (0 ≤ a) && decide (a < m))) = true
  rw [decide_eq_true h.1, decide_eq_true h.2]; rfl
theorem isfr_of {f : Fr} (h : FrG f) : m_is_fraction ((eP PyData.int PyData.int) f) = true := by
  obtain ⟨t, b⟩ := f
  have hb := h.b.1
  have hg := h.g
  simp only at hb hg
  show (bif decide (b < 1) then false else decide (m_common_part t b = 1)) = true
  rw [decide_eq_false (show ¬ b < 1 by omega), cond_false, m_common_part_eq, hg]
  rfl
theorem two_of {a b m : Int} (ha : 0 ≤ a ∧ a < m) (hb : 0 ≤ b ∧ b < m) (hn : a ≠ b) : m_two_places (.int a) (.int b) m = true := by
  show (m_is_place (.int a) m && (m_is_place (.int b) m && !decide (a = b))) = true
  rw [place_in ha, place_in hb, decide_eq_false hn]; rfl
theorem fits_of {m : Int} {w : T4 Int Int Fr Bool} (ha : 0 ≤ w.a ∧ w.a < m) (hb : 0 ≤ w.b ∧ w.b < m) (hn : w.a ≠ w.b) (h1 : FrG w.c) (h2 : 0 < w.c.1) : m_wish_fits w m = true := by
  unfold m_wish_fits
  rw [two_of ha hb hn, isfr_of h1, decide_eq_true h2]
  rfl
theorem road_of {m : Int} {r : T5 Int Int Fr Fr Bool} (ha : 0 ≤ r.a ∧ r.a < m) (hb : 0 ≤ r.b ∧ r.b < m) (hn : r.a ≠ r.b) (h1 : FrG r.c) (h2 : FrG r.d) : m_road_fits ((eT5 PyData.int PyData.int (eP PyData.int PyData.int) (eP PyData.int PyData.int) PyData.bool) r) m = true := by
  obtain ⟨a, b, c, d, e⟩ := r
  have f1 : m_from_nought ((eP PyData.int PyData.int) c) = true := by
    show (m_is_fraction ((eP PyData.int PyData.int) c) && decide (0 ≤ c.1)) = true
    rw [isfr_of h1, decide_eq_true h1.t.1]; rfl
  have f2 : m_from_nought ((eP PyData.int PyData.int) d) = true := by
    show (m_is_fraction ((eP PyData.int PyData.int) d) && decide (0 ≤ d.1)) = true
    rw [isfr_of h2, decide_eq_true h2.t.1]; rfl
  show (bif (false || !(m_two_places (.int a) (.int b) m)) then false else (m_from_nought ((eP PyData.int PyData.int) c) && (m_from_nought ((eP PyData.int PyData.int) d) && true))) = true
  rw [two_of ha hb hn, f1, f2]
  rfl
theorem wishes_turn {sc : List Int} {m : Int} {k : Nat} {s : List (T4 Int Int Fr Bool)} {a : Int} (hm : 2 ≤ m ∧ m ≤ 6) (h : WtI m (((k : Nat) : Int)).toNat s) : ∃ s', l_l_wishes_1 sc m s a = .nx s' ∧ WtI m ((((k + 1 : Nat)) : Int)).toNat s' := by
  unfold l_l_wishes_1
  refine ⟨_, rfl, ?_⟩
  try simp only
  have hc := mixed_nn sc (1 + a)
  generalize m_l_mixed sc (1 + a) = c at *
  have h1 : 0 ≤ c % m ∧ c % m < m := ⟨Int.emod_nonneg _ (by omega), Int.emod_lt_of_pos _ (by omega)⟩
  have h2 : 0 ≤ (c / 6) % (m - 1) ∧ (c / 6) % (m - 1) < m - 1 := ⟨Int.emod_nonneg _ (by omega), Int.emod_lt_of_pos _ (by omega)⟩
  have h3 : 0 ≤ ((c % m + 1) + (c / 6) % (m - 1)) % m ∧ ((c % m + 1) + (c / 6) % (m - 1)) % m < m := ⟨Int.emod_nonneg _ (by omega), Int.emod_lt_of_pos _ (by omega)⟩
  have h4 := ne_mod h1 h2
  have hf := fraction_ok sc (30 + a)
  generalize m_l_fraction sc (30 + a) = f at *
  refine ⟨by rw [List.length_append, h.len]; show _ + 1 = _; omega, fun w hw => ?_⟩
  rcases List.mem_append.mp hw with z | z
  · exact h.each w z
  · rw [List.mem_singleton.mp z]
    refine ⟨h1, h3, fun e => h4 e.symm, ?_⟩
    by_cases q : f.1 = 0
    · rw [decide_eq_true q, cond_true]
      have h5 : 0 ≤ c % 9 ∧ c % 9 < 9 := by omega
      exact ⟨frG_one (by omega), by show 0 < 1 + c % 9; omega⟩
    · rw [decide_eq_false q, cond_false]
      have := hf.t.1
      exact ⟨hf, by show 0 < f.1; omega⟩
def r_l_wishes (xs : List PyData) (r : Res) : Prop := ∃ (l_script : (List Int)) (l_many_here : Int), (2 ≤ l_many_here ∧ l_many_here ≤ 6) ∧ (l_script.length ≤ 63) ∧ xs = [((eL PyData.int) l_script), (.int l_many_here)] ∧ r = .ok ((oL (eT4 PyData.int PyData.int (eP PyData.int PyData.int) PyData.bool)) (m_l_wishes l_script l_many_here))
abbrev N_l_wishes : List Str := ["_law_script", "_law_many_here", "_law_wishes_here", "_law_k", "_law_cell_here", "_law_start", "_law_end", "_law_amount"]
theorem sc_l_wishes : FnScope N_l_wishes ["_law_script", "_law_many_here"] (defScope s_l_wishes) := ⟨rfl, rfl, rfl, by decide +kernel, rfl, by decide +kernel, by decide +kernel⟩
theorem ok_l_wishes (F : Def K mg "_law_wishes" s_l_wishes ["_law_script", "_law_many_here"]) (T : Txt K mg A) (c_l_cell : Cal P w K mg base "_law_cell" 2 r_l_cell 1) (c_l_mixed : Cal P w K mg base "_law_mixed" 2 r_l_mixed 2) (c_l_fraction : Cal P w K mg base "_law_fraction" 2 r_l_fraction 3) : Cal P w K mg base "_law_wishes" 2 r_l_wishes 4 := by
  refine cal_ok F sc_l_wishes rfl fun fa cdv AA outer ss HH EE X hX C hr xs r hl hR => ?_
  obtain ⟨l_script, l_many_here, pre_0, pre_1, rfl, rfl⟩ := hR
  subst hX
  show DSs _ _ _ [.v ((eL PyData.int) l_script), .v (.int l_many_here), .no, .no, .no, .no, .no, .no] _
  obtain ⟨l_wishes_here_1, e_l_wishes_here_1⟩ : ∃ z : (List (T4 Int Int (Int × Int) Bool)), z = ([] : (List (T4 Int Int (Int × Int) Bool))) := ⟨_, rfl⟩
  refine ds_then (E' := [.v ((eL PyData.int) l_script), .v (.int l_many_here), .o (oL (eT4 PyData.int PyData.int (eP PyData.int PyData.int) PyData.bool) l_wishes_here_1), .no, .no, .no, .no, .no]) (ds_setN (t := oL (eT4 PyData.int PyData.int (eP PyData.int PyData.int) PyData.bool) l_wishes_here_1) (ln 2 sc_l_wishes.nd) (dnC (by subst e_l_wishes_here_1; rfl) (dn_lst da_nil))) ?_
  refine ds_forG (items := (rng 0 ((1 : Int) + (((m_l_cell l_script (0 : Int)) / (6 : Int)) % (3 : Int))).toNat)) (ea := PyData.int) (fun (s_1 : (List (T4 Int Int (Int × Int) Bool))) => [.v ((eL PyData.int) l_script), .v (.int l_many_here), .o (oL (eT4 PyData.int PyData.int (eP PyData.int PyData.int) PyData.bool) s_1), .no, .no, .no, .no, .no]) (l_l_wishes_1 l_script l_many_here) l_wishes_here_1 (fun (i_1 : Nat) (s_1 : (List (T4 Int Int (Int × Int) Bool))) => WtI l_many_here (i_1 : Int).toNat s_1) (fun (s_1 : (List (T4 Int Int (Int × Int) Bool))) => WtI l_many_here (((rng 0 ((1 : Int) + (((m_l_cell l_script (0 : Int)) / (6 : Int)) % (3 : Int))).toNat)).length : Int).toNat s_1) (fun (_ : Empty) _ => False) C (di_range1L (de_add de_int (de_mod (de_div (de_call (f := "_law_cell") (c_l_cell.at hr) rfl (da_cons (de_v 0 (pv 0)) (da_cons de_int da_nil)) ⟨l_script, (0 : Int), (by first | omega | assumption | decide), (by first | omega | assumption | decide), rfl, rfl⟩) de_int ⟨by decide, by decide⟩) de_int (by decide))) ⟨by omega, by omega⟩ rfl T.b_range) (tg_name (ln 3 sc_l_wishes.nd)) (by repeat (first | exact Le.nil | refine Le.same ?_ | refine Le.drop ?_)) (by subst e_l_wishes_here_1; exact ⟨rfl, fun w hw => absurd hw List.not_mem_nil⟩) ?_ (fun _ h => h) ?_ ?_
  · intro i_1 a_1 s_1 ha_1 hi_1
    refine ⟨[.v ((eL PyData.int) l_script), .v (.int l_many_here), .o (oL (eT4 PyData.int PyData.int (eP PyData.int PyData.int) PyData.bool) s_1), .v (.int a_1), .no, .no, .no, .no], rfl, ?_⟩
    have hrg := rng_get ha_1
    obtain ⟨l_cell_here_1, e_l_cell_here_1⟩ : ∃ z : Int, z = (m_l_mixed l_script ((1 : Int) + a_1)) := ⟨_, rfl⟩
    refine ds_then (E' := [.v ((eL PyData.int) l_script), .v (.int l_many_here), .o (oL (eT4 PyData.int PyData.int (eP PyData.int PyData.int) PyData.bool) s_1), .v (.int a_1), .v (.int l_cell_here_1), .no, .no, .no]) (ds_set (x := (.int l_cell_here_1)) (ln 4 sc_l_wishes.nd) (deC (by subst e_l_cell_here_1; rfl) (de_call (f := "_law_mixed") (c_l_mixed.at hr) rfl (da_cons (de_v 0 (pv 0)) (da_cons (de_add de_int (de_v 3 (pv 3))) da_nil)) ⟨l_script, ((1 : Int) + a_1), (by first | omega | assumption | decide), (by first | omega | assumption | decide), rfl, rfl⟩))) ?_
    have hmx : 0 ≤ l_cell_here_1 := by rw [e_l_cell_here_1]; exact mixed_nn _ _
    obtain ⟨l_start_1, e_l_start_1⟩ : ∃ z : Int, z = (l_cell_here_1 % l_many_here) := ⟨_, rfl⟩
    refine ds_then (E' := [.v ((eL PyData.int) l_script), .v (.int l_many_here), .o (oL (eT4 PyData.int PyData.int (eP PyData.int PyData.int) PyData.bool) s_1), .v (.int a_1), .v (.int l_cell_here_1), .v (.int l_start_1), .no, .no]) (ds_set (x := (.int l_start_1)) (ln 5 sc_l_wishes.nd) (deC (by subst e_l_start_1; rfl) (de_mod (de_v 4 (pv 4)) (de_v 1 (pv 1)) (by first | omega | assumption | decide)))) ?_
    obtain ⟨l_end_1, e_l_end_1⟩ : ∃ z : Int, z = (((l_start_1 + (1 : Int)) + ((l_cell_here_1 / (6 : Int)) % (l_many_here - (1 : Int)))) % l_many_here) := ⟨_, rfl⟩
    refine ds_then (E' := [.v ((eL PyData.int) l_script), .v (.int l_many_here), .o (oL (eT4 PyData.int PyData.int (eP PyData.int PyData.int) PyData.bool) s_1), .v (.int a_1), .v (.int l_cell_here_1), .v (.int l_start_1), .v (.int l_end_1), .no]) (ds_set (x := (.int l_end_1)) (ln 6 sc_l_wishes.nd) (deC (by subst e_l_end_1; rfl) (de_mod (de_add (de_add (de_v 5 (pv 5)) de_int) (de_mod (de_div (de_v 4 (pv 4)) de_int ⟨by decide, by decide⟩) (de_sub (de_v 1 (pv 1)) de_int) (by first | omega | assumption | decide))) (de_v 1 (pv 1)) (by first | omega | assumption | decide)))) ?_
    obtain ⟨l_amount_1, e_l_amount_1⟩ : ∃ z : (Int × Int), z = (m_l_fraction l_script ((30 : Int) + a_1)) := ⟨_, rfl⟩
    refine ds_then (E' := [.v ((eL PyData.int) l_script), .v (.int l_many_here), .o (oL (eT4 PyData.int PyData.int (eP PyData.int PyData.int) PyData.bool) s_1), .v (.int a_1), .v (.int l_cell_here_1), .v (.int l_start_1), .v (.int l_end_1), .v ((eP PyData.int PyData.int) l_amount_1)]) (ds_set (x := ((eP PyData.int PyData.int) l_amount_1)) (ln 7 sc_l_wishes.nd) (deC (by subst e_l_amount_1; rfl) (de_call (f := "_law_fraction") (c_l_fraction.at hr) rfl (da_cons (de_v 0 (pv 0)) (da_cons (de_add de_int (de_v 3 (pv 3))) da_nil)) ⟨l_script, ((30 : Int) + a_1), (by first | omega | assumption | decide), (by first | omega | assumption | decide), rfl, rfl⟩))) ?_
    obtain ⟨p_1, e_p_1⟩ : ∃ z : (Int × Int), z = (bif (decide (l_amount_1.1 = (0 : Int))) then (let l_amount_2 := (((1 : Int) + (l_cell_here_1 % (9 : Int))), (1 : Int)); l_amount_2) else l_amount_1) := ⟨_, rfl⟩
    try dsimp only at e_p_1
    refine ds_ifl (E' := [.v ((eL PyData.int) l_script), .v (.int l_many_here), .o (oL (eT4 PyData.int PyData.int (eP PyData.int PyData.int) PyData.bool) s_1), .v (.int a_1), .v (.int l_cell_here_1), .v (.int l_start_1), .v (.int l_end_1), .v ((eP PyData.int PyData.int) p_1)]) (dt_eqI (de_it (de_v 7 (pv 7)) de_int) de_int) (fun c_1 => ?_) (fun c_1 => ?_) ?_
    · have q_c_1 := c_1
      try simp only [eqD_t, eqD_f, decide_eq_true_eq, decide_eq_false_iff_not, Bool.not_eq_true', Bool.not_eq_false', Bool.and_eq_true, Bool.or_eq_true, Bool.and_eq_false_iff, Bool.or_eq_false_iff, Bool.not_true, Bool.not_false, Bool.not_not, Decidable.not_not] at q_c_1
      obtain ⟨l_amount_2, e_l_amount_2⟩ : ∃ z : (Int × Int), z = (((1 : Int) + (l_cell_here_1 % (9 : Int))), (1 : Int)) := ⟨_, rfl⟩
      refine ds_then (E' := [.v ((eL PyData.int) l_script), .v (.int l_many_here), .o (oL (eT4 PyData.int PyData.int (eP PyData.int PyData.int) PyData.bool) s_1), .v (.int a_1), .v (.int l_cell_here_1), .v (.int l_start_1), .v (.int l_end_1), .v ((eP PyData.int PyData.int) l_amount_2)]) (ds_set (x := ((eP PyData.int PyData.int) l_amount_2)) (ln 7 sc_l_wishes.nd) (deC (by subst e_l_amount_2; rfl) (de_tup (da_cons (de_add de_int (de_mod (de_v 4 (pv 4)) de_int (by decide))) (da_cons de_int da_nil))))) ?_
      exact ds_nil (by subst e_p_1 e_l_amount_2; (try simp only [c_1, cond_true, cond_false, Bool.not_true, Bool.not_false, goM, goN]); (show Le _ _); repeat (first | exact Le.nil | refine Le.same ?_ | refine Le.drop ?_))
    · have q_c_1 := c_1
      try simp only [eqD_t, eqD_f, decide_eq_true_eq, decide_eq_false_iff_not, Bool.not_eq_true', Bool.not_eq_false', Bool.and_eq_true, Bool.or_eq_true, Bool.and_eq_false_iff, Bool.or_eq_false_iff, Bool.not_true, Bool.not_false, Bool.not_not, Decidable.not_not] at q_c_1
      exact ds_nil (by subst e_p_1; (try simp only [c_1, cond_true, cond_false, Bool.not_true, Bool.not_false, goM, goN]); (show Le _ _); repeat (first | exact Le.nil | refine Le.same ?_ | refine Le.drop ?_))
    obtain ⟨l_wishes_here_2, e_l_wishes_here_2⟩ : ∃ z : (List (T4 Int Int (Int × Int) Bool)), z = (s_1 ++ [(⟨l_start_1, l_end_1, p_1, (decide (((l_cell_here_1 / (40 : Int)) % (2 : Int)) = (1 : Int)))⟩ : (T4 Int Int (Int × Int) Bool))]) := ⟨_, rfl⟩
    refine ds_then (E' := [.v ((eL PyData.int) l_script), .v (.int l_many_here), .o (oL (eT4 PyData.int PyData.int (eP PyData.int PyData.int) PyData.bool) l_wishes_here_2), .v (.int a_1), .v (.int l_cell_here_1), .v (.int l_start_1), .v (.int l_end_1), .v ((eP PyData.int PyData.int) p_1)]) (ds_appendL (f := (eT4 PyData.int PyData.int (eP PyData.int PyData.int) PyData.bool)) (v := (⟨l_start_1, l_end_1, p_1, (decide (((l_cell_here_1 / (40 : Int)) % (2 : Int)) = (1 : Int)))⟩ : (T4 Int Int (Int × Int) Bool))) (xs := s_1) (fun _ => pv 2) (de_tup (da_cons (de_v 5 (pv 5)) (da_cons (de_v 6 (pv 6)) (da_cons (de_v 7 (pv 7)) (da_cons (de_eqI (de_mod (de_div (de_v 4 (pv 4)) de_int ⟨by decide, by decide⟩) de_int (by decide)) de_int) da_nil))))) rfl (by rw [sizeLine_eq]; (have h7 := hi_1.len; omega)) (by subst e_l_wishes_here_2; rfl)) ?_
    exact ds_nil ⟨l_wishes_here_2, (by subst e_l_wishes_here_1 e_l_cell_here_1 e_l_start_1 e_l_end_1 e_l_amount_1 e_p_1 e_l_wishes_here_2; simp only [l_l_wishes_1, cond_true, cond_false, Bool.not_true, Bool.not_false, goM, goN]; try rfl), (by repeat (first | exact Le.nil | refine Le.same ?_ | refine Le.drop ?_)), (by have hz := go_inv (v := l_wishes_here_2) (wishes_turn (sc := l_script) (a := a_1) pre_0 hi_1) (by subst e_l_wishes_here_1 e_l_cell_here_1 e_l_start_1 e_l_end_1 e_l_amount_1 e_p_1 e_l_wishes_here_2; simp only [l_l_wishes_1, cond_true, cond_false, Bool.not_true, Bool.not_false, goM, goN]; try rfl); exact hz)⟩
  · intro r o f_1 ho hr_
    exact r.elim
  intro s_2 f_1 hi_1
  exact ds_ret (db_v 2 (pv 2)) (.inl (by subst e_l_wishes_here_1; first | (simp only [m_l_wishes, f_1, cond_true, cond_false, Bool.not_true, Bool.not_false, goM, goN]; first | done | rfl) | (simp only [m_l_wishes]; rw [f_1]; first | done | rfl) | (simp only [m_l_wishes]; (try dsimp only at f_1); (try simp only [f_1, cond_true, cond_false, Bool.not_true, Bool.not_false, goM, goN]); first | done | rfl)))
theorem wishes_ok {sc : List Int} {m : Int} (hm : 2 ≤ m ∧ m ≤ 6) : ∃ n : Nat, (1 ≤ n ∧ n ≤ 3) ∧ WtI m n (m_l_wishes sc m) := by
  obtain ⟨s, e, h⟩ := forG_inv (f := l_l_wishes_1 sc m) (xs := rng 0 ((1 : Int) + (m_l_cell sc 0 / 6) % 3).toNat) (fun i s => WtI m (((i : Nat) : Int)).toNat s) (fun i a s ha hi => wishes_turn hm hi) (s := []) ⟨rfl, fun w hw => absurd hw List.not_mem_nil⟩
  rw [rng_len] at h
  refine ⟨_, ?_, by unfold m_l_wishes; simp only; rw [goN_nx e]; exact h⟩
  omega
def m_l_road (l_script : (List Int)) (l_k : Int) (l_start : Int) (l_end : Int) (l_lane : Bool) : (T5 Int Int (Int × Int) (Int × Int) Bool) := (⟨l_start, l_end, (m_l_fraction l_script l_k), (m_l_fraction l_script ((20 : Int) + l_k)), l_lane⟩ : (T5 Int Int (Int × Int) (Int × Int) Bool))
def r_l_road (xs : List PyData) (r : Res) : Prop := ∃ (l_script : (List Int)) (l_k : Int) (l_start : Int) (l_end : Int) (l_lane : Bool), (0 ≤ l_k ∧ l_k ≤ 60) ∧ (l_script.length ≤ 63) ∧ xs = [((eL PyData.int) l_script), (.int l_k), (.int l_start), (.int l_end), (.bool l_lane)] ∧ r = .v ((eT5 PyData.int PyData.int (eP PyData.int PyData.int) (eP PyData.int PyData.int) PyData.bool) (m_l_road l_script l_k l_start l_end l_lane))
abbrev N_l_road : List Str := ["_law_script", "_law_k", "_law_start", "_law_end", "_law_lane"]
theorem sc_l_road : FnScope N_l_road ["_law_script", "_law_k", "_law_start", "_law_end", "_law_lane"] (defScope s_l_road) := ⟨rfl, rfl, rfl, by decide +kernel, rfl, by decide +kernel, by decide +kernel⟩
theorem ok_l_road (F : Def K mg "_law_road" s_l_road ["_law_script", "_law_k", "_law_start", "_law_end", "_law_lane"]) (T : Txt K mg A) (c_l_fraction : Cal P w K mg base "_law_fraction" 2 r_l_fraction 3) : Cal P w K mg base "_law_road" 5 r_l_road 4 := by
  refine cal_ok F sc_l_road rfl fun fa cdv AA outer ss HH EE X hX C hr xs r hl hR => ?_
  obtain ⟨l_script, l_k, l_start, l_end, l_lane, pre_0, pre_1, rfl, rfl⟩ := hR
  subst hX
  show DSs _ _ _ [.v ((eL PyData.int) l_script), .v (.int l_k), .v (.int l_start), .v (.int l_end), .v (.bool l_lane)] _
  exact ds_retD (de_tup (da_cons (de_v 2 (pv 2)) (da_cons (de_v 3 (pv 3)) (da_cons (de_call (f := "_law_fraction") (c_l_fraction.at hr) rfl (da_cons (de_v 0 (pv 0)) (da_cons (de_v 1 (pv 1)) da_nil)) ⟨l_script, l_k, (by first | omega | assumption | decide), (by first | omega | assumption | decide), rfl, rfl⟩) (da_cons (de_call (f := "_law_fraction") (c_l_fraction.at hr) rfl (da_cons (de_v 0 (pv 0)) (da_cons (de_add de_int (de_v 1 (pv 1))) da_nil)) ⟨l_script, ((20 : Int) + l_k), (by first | omega | assumption | decide), (by first | omega | assumption | decide), rfl, rfl⟩) (da_cons (de_v 4 (pv 4)) da_nil)))))) (.inl (by simp only [m_l_road, cond_true, cond_false, Bool.not_true, Bool.not_false, goM, goN]; try rfl))
def l_l_begun_1 (k_l_script : (List Int)) (k_l_many_here : Int) (k_l_straight : Bool) (s_1 : (List (T5 Int Int (Int × Int) (Int × Int) Bool))) (a_1 : (Int × (T4 Int Int (Int × Int) Bool))) : Go ((List (T5 Int Int (Int × Int) (Int × Int) Bool))) Empty := (let l_over_1 := ((m_l_mixed k_l_script ((4 : Int) + a_1.1)) % k_l_many_here); (let p_1 := (bif (decide ((m_l_many s_1 ([a_1.2] : (List (T4 Int Int (Int × Int) Bool)))) = (0 : Int))) then (let p_2 := (bif (k_l_straight || ((decide (l_over_1 = a_1.2.a)) || (decide (l_over_1 = a_1.2.b)))) then (let l_roads_here_2 := (s_1 ++ [(m_l_road k_l_script ((40 : Int) + a_1.1) a_1.2.a a_1.2.b false)]); l_roads_here_2) else (let l_roads_here_2 := (s_1 ++ [(m_l_road k_l_script ((43 : Int) + a_1.1) a_1.2.a l_over_1 false)]); (let l_roads_here_3 := (l_roads_here_2 ++ [(m_l_road k_l_script ((46 : Int) + a_1.1) l_over_1 a_1.2.b false)]); l_roads_here_3))); p_2) else s_1); (.nx p_1)))
def m_l_begun (l_script : (List Int)) (l_many_here : Int) (l_wishes_here : (List (T4 Int Int (Int × Int) Bool))) (l_straight : Bool) : (List (T5 Int Int (Int × Int) (Int × Int) Bool)) := (let l_roads_here_1 := ([] : (List (T5 Int Int (Int × Int) (Int × Int) Bool))); (goN (forG (l_l_begun_1 l_script l_many_here l_straight) (enumL l_wishes_here) l_roads_here_1) (fun s_2 => s_2)))
structure RdI (m : Int) (n : Nat) (rs : List Rd) : Prop where
  len : rs.length ≤ n
  ends : ∀ r ∈ rs, (0 ≤ r.a ∧ r.a < m) ∧ (0 ≤ r.b ∧ r.b < m)
  fr : ∀ r ∈ rs, r.a ≠ r.b ∧ FrG r.c ∧ FrG r.d
theorem RdI.mono {m : Int} {n k : Nat} {rs : List Rd} (h : RdI m n rs) (hn : n ≤ k) : RdI m k rs := ⟨Nat.le_trans h.len hn, h.ends, h.fr⟩
theorem RdI.six {m : Int} {n : Nat} {rs : List Rd} (h : RdI m n rs) (hm : m ≤ 6) : ∀ r ∈ rs, (0 ≤ r.a ∧ r.a < 6) ∧ (0 ≤ r.b ∧ r.b < 6) := fun r hr => by have := h.ends r hr; omega
theorem RdI.add {m : Int} {n : Nat} {rs : List Rd} {r : Rd} (h : RdI m n rs) (h1 : 0 ≤ r.a ∧ r.a < m) (h2 : 0 ≤ r.b ∧ r.b < m) (h3 : r.a ≠ r.b ∧ FrG r.c ∧ FrG r.d) : RdI m (n + 1) (rs ++ [r]) := ⟨by rw [List.length_append]; exact Nat.succ_le_succ h.len, fun q hq => by
  rcases List.mem_append.mp hq with z | z
  · exact h.ends q z
  · rw [List.mem_singleton.mp z]; exact ⟨h1, h2⟩, fun q hq => by
  rcases List.mem_append.mp hq with z | z
  · exact h.fr q z
  · rw [List.mem_singleton.mp z]; exact h3⟩
theorem many_one (rs : List Rd) (w : T4 Int Int Fr Bool) : m_l_many rs [w] = m_l_listed rs w.a w.b w.d := by
  unfold m_l_many
  show _ + 0 = _
  rw [Int.add_zero]
theorem listed_cn {rs : List Rd} {m : Int} {n : Nat} {s e : Int} {l : Bool} (h : RdI m n rs) (hn : n ≤ 13) (hm : m ≤ 6) (hs : 0 ≤ s ∧ s < m) : m_l_listed rs s e l ≠ 0 ↔ Cn (usb rs l) e [s] := by
  rw [listed_cnt, cnt_eq, ← dfs_some (usb_us (Nat.le_trans h.len hn) fun r hr => (h.six hm r hr).2) (by omega)]
  exact ⟨fun z y => z (by rw [y]; rfl), fun z y => z (List.length_eq_zero_iff.mp (by omega))⟩
theorem begun_turn {sc : List Int} {m : Int} {straight : Bool} {s : List Rd} {a : Int × T4 Int Int Fr Bool} {n : Nat} (hm : 2 ≤ m ∧ m ≤ 6) (ha : 0 ≤ a.2.a ∧ a.2.a < m) (hb : 0 ≤ a.2.b ∧ a.2.b < m) (hne : a.2.a ≠ a.2.b) (hn : n ≤ 11) (h : RdI m n s) : ∃ s', l_l_begun_1 sc m straight s a = .nx s' ∧ RdI m (n + 2) s' ∧ (∀ r ∈ s, r ∈ s') ∧ Cn (usb s' a.2.d) a.2.b [a.2.a] ∧ (straight = true → s'.length ≤ s.length + 1) := by
  unfold l_l_begun_1
  refine ⟨_, rfl, ?_⟩
  try simp only
  have ho : 0 ≤ m_l_mixed sc (4 + a.1) % m ∧ m_l_mixed sc (4 + a.1) % m < m := ⟨Int.emod_nonneg _ (by omega), Int.emod_lt_of_pos _ (by omega)⟩
  generalize m_l_mixed sc (4 + a.1) % m = o at *
  have hu : ∀ (l : Bool), (l || !false) = true := fun l => by cases l <;> rfl
  by_cases c0 : m_l_many s [a.2] = 0
  · rw [decide_eq_true c0, cond_true]
    cases c1 : (straight || (decide (o = a.2.a) || decide (o = a.2.b))) with
    | true =>
      rw [cond_true]
      refine ⟨(h.add (r := m_l_road sc (40 + a.1) a.2.a a.2.b false) ha hb ⟨hne, fraction_ok _ _, fraction_ok _ _⟩).mono (by omega), fun r hr => List.mem_append_left _ hr, ?_, fun _ => by rw [List.length_append]; exact Nat.le_refl _⟩
      obtain ⟨q, hq, e⟩ := usb_of (rs := s ++ [m_l_road sc (40 + a.1) a.2.a a.2.b false]) (lane := a.2.d) (r := m_l_road sc (40 + a.1) a.2.a a.2.b false) (List.mem_append_right _ (List.mem_singleton.mpr rfl)) (hu _)
      exact cn_one hq e
    | false =>
      rw [cond_false]
      rw [Bool.or_eq_false_iff, Bool.or_eq_false_iff, decide_eq_false_iff_not, decide_eq_false_iff_not] at c1
      refine ⟨(h.add (r := m_l_road sc (43 + a.1) a.2.a o false) ha ho ⟨fun z => c1.2.1 z.symm, fraction_ok _ _, fraction_ok _ _⟩).add (r := m_l_road sc (46 + a.1) o a.2.b false) ho hb ⟨c1.2.2, fraction_ok _ _, fraction_ok _ _⟩, fun r hr => List.mem_append_left _ (List.mem_append_left _ hr), ?_, fun k => by rw [c1.1] at k; cases k⟩
      obtain ⟨q, hq, e⟩ := usb_of (rs := (s ++ [m_l_road sc (43 + a.1) a.2.a o false]) ++ [m_l_road sc (46 + a.1) o a.2.b false]) (lane := a.2.d) (r := m_l_road sc (43 + a.1) a.2.a o false) (List.mem_append_left _ (List.mem_append_right _ (List.mem_singleton.mpr rfl))) (hu _)
      obtain ⟨q2, hq2, e2⟩ := usb_of (rs := (s ++ [m_l_road sc (43 + a.1) a.2.a o false]) ++ [m_l_road sc (46 + a.1) o a.2.b false]) (lane := a.2.d) (r := m_l_road sc (46 + a.1) o a.2.b false) (List.mem_append_right _ (List.mem_singleton.mpr rfl)) (hu _)
      exact cn_two hq e hq2 e2 c1.2.1
  · rw [decide_eq_false c0, cond_false]
    refine ⟨h.mono (by omega), fun r hr => hr, ?_, fun _ => Nat.le_succ _⟩
    rw [many_one] at c0
    exact (listed_cn h (by omega) hm.2 ha).mp c0
theorem one_six {m : Int} {v : T4 Int Int Fr Bool} (hm : m ≤ 6) (h : 0 ≤ v.a ∧ v.a < m) : ∀ w ∈ [v], 0 ≤ w.a ∧ w.a < 6 := fun w hw => by rw [List.mem_singleton.mp hw]; omega
theorem begun_walk {sc : List Int} {m : Int} {straight : Bool} {s : List Rd} {a : Int × T4 Int Int Fr Bool} {i : Nat} (hm : 2 ≤ m ∧ m ≤ 6) (hw : (0 ≤ a.2.a ∧ a.2.a < m) ∧ (0 ≤ a.2.b ∧ a.2.b < m)) (hne : a.2.a ≠ a.2.b) (hn : 2 * (((i : Nat) : Int)).toNat ≤ 11) (h : RdI m (2 * (((i : Nat) : Int)).toNat) s) : ∃ s', l_l_begun_1 sc m straight s a = .nx s' ∧ RdI m (2 * ((((i + 1 : Nat)) : Int)).toNat) s' := by
  obtain ⟨s', k1, k2, _⟩ := begun_turn (sc := sc) (straight := straight) hm hw.1 hw.2 hne hn h
  exact ⟨s', k1, k2.mono (by omega)⟩
def r_l_begun (xs : List PyData) (r : Res) : Prop := ∃ (l_script : (List Int)) (l_many_here : Int) (l_wishes_here : (List (T4 Int Int (Int × Int) Bool))) (l_straight : Bool), (2 ≤ l_many_here ∧ l_many_here ≤ 6) ∧ (l_script.length ≤ 63) ∧ (l_wishes_here.length ≤ 3) ∧ (∀ w ∈ l_wishes_here, (0 ≤ w.a ∧ w.a < l_many_here) ∧ (0 ≤ w.b ∧ w.b < l_many_here)) ∧ (∀ w ∈ l_wishes_here, w.a ≠ w.b) ∧ xs = [((eL PyData.int) l_script), (.int l_many_here), ((eL (eT4 PyData.int PyData.int (eP PyData.int PyData.int) PyData.bool)) l_wishes_here), (.bool l_straight)] ∧ r = .ok ((oL (eT5 PyData.int PyData.int (eP PyData.int PyData.int) (eP PyData.int PyData.int) PyData.bool)) (m_l_begun l_script l_many_here l_wishes_here l_straight))
abbrev N_l_begun : List Str := ["_law_script", "_law_many_here", "_law_wishes_here", "_law_straight", "_law_roads_here", "_law_k", "_law_wish", "_law_over"]
theorem sc_l_begun : FnScope N_l_begun ["_law_script", "_law_many_here", "_law_wishes_here", "_law_straight"] (defScope s_l_begun) := ⟨rfl, rfl, rfl, by decide +kernel, rfl, by decide +kernel, by decide +kernel⟩
theorem ok_l_begun (F : Def K mg "_law_begun" s_l_begun ["_law_script", "_law_many_here", "_law_wishes_here", "_law_straight"]) (T : Txt K mg A) (c_l_mixed : Cal P w K mg base "_law_mixed" 2 r_l_mixed 2) (c_l_many : Cal P w K mg base "_law_many" 2 r_l_many 2) (c_l_road : Cal P w K mg base "_law_road" 5 r_l_road 4) : Cal P w K mg base "_law_begun" 4 r_l_begun 5 := by
  refine cal_ok F sc_l_begun rfl fun fa cdv AA outer ss HH EE X hX C hr xs r hl hR => ?_
  obtain ⟨l_script, l_many_here, l_wishes_here, l_straight, pre_0, pre_1, pre_2, pre_3, pre_4, rfl, rfl⟩ := hR
  subst hX
  show DSs _ _ _ [.v ((eL PyData.int) l_script), .v (.int l_many_here), .v ((eL (eT4 PyData.int PyData.int (eP PyData.int PyData.int) PyData.bool)) l_wishes_here), .v (.bool l_straight), .no, .no, .no, .no] _
  obtain ⟨l_roads_here_1, e_l_roads_here_1⟩ : ∃ z : (List (T5 Int Int (Int × Int) (Int × Int) Bool)), z = ([] : (List (T5 Int Int (Int × Int) (Int × Int) Bool))) := ⟨_, rfl⟩
  refine ds_then (E' := [.v ((eL PyData.int) l_script), .v (.int l_many_here), .v ((eL (eT4 PyData.int PyData.int (eP PyData.int PyData.int) PyData.bool)) l_wishes_here), .v (.bool l_straight), .o (oL (eT5 PyData.int PyData.int (eP PyData.int PyData.int) (eP PyData.int PyData.int) PyData.bool) l_roads_here_1), .no, .no, .no]) (ds_setN (t := oL (eT5 PyData.int PyData.int (eP PyData.int PyData.int) (eP PyData.int PyData.int) PyData.bool) l_roads_here_1) (ln 4 sc_l_begun.nd) (dnC (by subst e_l_roads_here_1; rfl) (dn_lst da_nil))) ?_
  have hlr_l_roads_here_1 := congrArg List.length e_l_roads_here_1
  try simp only [List.length_append, List.length_cons, List.length_nil] at hlr_l_roads_here_1
  refine ds_forG (items := (enumL l_wishes_here)) (ea := (eP PyData.int (eT4 PyData.int PyData.int (eP PyData.int PyData.int) PyData.bool))) (fun (s_1 : (List (T5 Int Int (Int × Int) (Int × Int) Bool))) => [.v ((eL PyData.int) l_script), .v (.int l_many_here), .v ((eL (eT4 PyData.int PyData.int (eP PyData.int PyData.int) PyData.bool)) l_wishes_here), .v (.bool l_straight), .o (oL (eT5 PyData.int PyData.int (eP PyData.int PyData.int) (eP PyData.int PyData.int) PyData.bool) s_1), .no, .no, .no]) (l_l_begun_1 l_script l_many_here l_straight) l_roads_here_1 (fun (i_1 : Nat) (s_1 : (List (T5 Int Int (Int × Int) (Int × Int) Bool))) => RdI l_many_here (2 * (i_1 : Int).toNat) s_1) (fun (s_1 : (List (T5 Int Int (Int × Int) (Int × Int) Bool))) => RdI l_many_here (2 * (((enumL l_wishes_here)).length : Int).toNat) s_1) (fun (_ : Empty) _ => False) C (di_enumL (de_v 2 (pv 2)) rfl T.b_enumerate) (tg_two rfl (tg_name (ln 5 sc_l_begun.nd)) (tg_name (ln 6 sc_l_begun.nd))) (by repeat (first | exact Le.nil | refine Le.same ?_ | refine Le.drop ?_)) (by subst e_l_roads_here_1; exact ⟨Nat.le_refl 0, fun r hr => absurd hr List.not_mem_nil, fun r hr => absurd hr List.not_mem_nil⟩) ?_ (fun _ h => h) ?_ ?_
  · intro i_1 a_1 s_1 ha_1 hi_1
    refine ⟨[.v ((eL PyData.int) l_script), .v (.int l_many_here), .v ((eL (eT4 PyData.int PyData.int (eP PyData.int PyData.int) PyData.bool)) l_wishes_here), .v (.bool l_straight), .o (oL (eT5 PyData.int PyData.int (eP PyData.int PyData.int) (eP PyData.int PyData.int) PyData.bool) s_1), .v (.int a_1.1), .v ((eT4 PyData.int PyData.int (eP PyData.int PyData.int) PyData.bool) a_1.2), .no], rfl, ?_⟩
    have hwa := pre_3 a_1.2 (enumL_in (List.mem_of_getElem? ha_1))
    have hei := enumL_mem (List.mem_of_getElem? ha_1)
    have hel := enumL_len l_wishes_here
    have hli := get_lt ha_1
    have hrl := hi_1.len
    obtain ⟨l_over_1, e_l_over_1⟩ : ∃ z : Int, z = ((m_l_mixed l_script ((4 : Int) + a_1.1)) % l_many_here) := ⟨_, rfl⟩
    refine ds_then (E' := [.v ((eL PyData.int) l_script), .v (.int l_many_here), .v ((eL (eT4 PyData.int PyData.int (eP PyData.int PyData.int) PyData.bool)) l_wishes_here), .v (.bool l_straight), .o (oL (eT5 PyData.int PyData.int (eP PyData.int PyData.int) (eP PyData.int PyData.int) PyData.bool) s_1), .v (.int a_1.1), .v ((eT4 PyData.int PyData.int (eP PyData.int PyData.int) PyData.bool) a_1.2), .v (.int l_over_1)]) (ds_set (x := (.int l_over_1)) (ln 7 sc_l_begun.nd) (deC (by subst e_l_over_1; rfl) (de_mod (de_call (f := "_law_mixed") (c_l_mixed.at hr) rfl (da_cons (de_v 0 (pv 0)) (da_cons (de_add de_int (de_v 5 (pv 5))) da_nil)) ⟨l_script, ((4 : Int) + a_1.1), (by first | omega | assumption | exact hi_1.six pre_0.2 | exact one_six pre_0.2 hwa.1 | exact (show 1 ≤ 3 by decide) | decide), (by first | omega | assumption | exact hi_1.six pre_0.2 | exact one_six pre_0.2 hwa.1 | exact (show 1 ≤ 3 by decide) | decide), rfl, rfl⟩) (de_v 1 (pv 1)) (by first | omega | assumption | exact hi_1.six pre_0.2 | exact one_six pre_0.2 hwa.1 | exact (show 1 ≤ 3 by decide) | decide)))) ?_
    obtain ⟨p_1, e_p_1⟩ : ∃ z : (List (T5 Int Int (Int × Int) (Int × Int) Bool)), z = (bif (decide ((m_l_many s_1 ([a_1.2] : (List (T4 Int Int (Int × Int) Bool)))) = (0 : Int))) then (let p_2 := (bif (l_straight || ((decide (l_over_1 = a_1.2.a)) || (decide (l_over_1 = a_1.2.b)))) then (let l_roads_here_2 := (s_1 ++ [(m_l_road l_script ((40 : Int) + a_1.1) a_1.2.a a_1.2.b false)]); l_roads_here_2) else (let l_roads_here_2 := (s_1 ++ [(m_l_road l_script ((43 : Int) + a_1.1) a_1.2.a l_over_1 false)]); (let l_roads_here_3 := (l_roads_here_2 ++ [(m_l_road l_script ((46 : Int) + a_1.1) l_over_1 a_1.2.b false)]); l_roads_here_3))); p_2) else s_1) := ⟨_, rfl⟩
    try dsimp only at e_p_1
    refine ds_ifl (E' := [.v ((eL PyData.int) l_script), .v (.int l_many_here), .v ((eL (eT4 PyData.int PyData.int (eP PyData.int PyData.int) PyData.bool)) l_wishes_here), .v (.bool l_straight), .o (oL (eT5 PyData.int PyData.int (eP PyData.int PyData.int) (eP PyData.int PyData.int) PyData.bool) p_1), .v (.int a_1.1), .v ((eT4 PyData.int PyData.int (eP PyData.int PyData.int) PyData.bool) a_1.2), .v (.int l_over_1)]) (dt_borrowS 4 (dat_L (eT5 PyData.int PyData.int (eP PyData.int PyData.int) (eP PyData.int PyData.int) PyData.bool)) rfl (dt_eqI (de_call (f := "_law_many") (c_l_many.at hr) rfl (da_cons (de_v 4 (pv 4)) (da_cons (DN.toL (f := (eT4 PyData.int PyData.int (eP PyData.int PyData.int) PyData.bool)) (xs := ([a_1.2] : (List (T4 Int Int (Int × Int) Bool)))) (dn_lst (da_cons (de_v 6 (pv 6)) da_nil))) da_nil)) ⟨s_1, ([a_1.2] : (List (T4 Int Int (Int × Int) Bool))), (by first | omega | assumption | exact hi_1.six pre_0.2 | exact one_six pre_0.2 hwa.1 | exact (show 1 ≤ 3 by decide) | decide), (by first | omega | assumption | exact hi_1.six pre_0.2 | exact one_six pre_0.2 hwa.1 | exact (show 1 ≤ 3 by decide) | decide), (by first | omega | assumption | exact hi_1.six pre_0.2 | exact one_six pre_0.2 hwa.1 | exact (show 1 ≤ 3 by decide) | decide), (by first | omega | assumption | exact hi_1.six pre_0.2 | exact one_six pre_0.2 hwa.1 | exact (show 1 ≤ 3 by decide) | decide), rfl, rfl⟩) de_int)) (fun c_1 => ?_) (fun c_1 => ?_) ?_
    · have q_c_1 := c_1
      try simp only [eqD_t, eqD_f, decide_eq_true_eq, decide_eq_false_iff_not, Bool.not_eq_true', Bool.not_eq_false', Bool.and_eq_true, Bool.or_eq_true, Bool.and_eq_false_iff, Bool.or_eq_false_iff, Bool.not_true, Bool.not_false, Bool.not_not, Decidable.not_not] at q_c_1
      obtain ⟨p_2, e_p_2⟩ : ∃ z : (List (T5 Int Int (Int × Int) (Int × Int) Bool)), z = (bif (l_straight || ((decide (l_over_1 = a_1.2.a)) || (decide (l_over_1 = a_1.2.b)))) then (let l_roads_here_2 := (s_1 ++ [(m_l_road l_script ((40 : Int) + a_1.1) a_1.2.a a_1.2.b false)]); l_roads_here_2) else (let l_roads_here_2 := (s_1 ++ [(m_l_road l_script ((43 : Int) + a_1.1) a_1.2.a l_over_1 false)]); (let l_roads_here_3 := (l_roads_here_2 ++ [(m_l_road l_script ((46 : Int) + a_1.1) l_over_1 a_1.2.b false)]); l_roads_here_3))) := ⟨_, rfl⟩
      try dsimp only at e_p_2
      refine ds_ifl (E' := [.v ((eL PyData.int) l_script), .v (.int l_many_here), .v ((eL (eT4 PyData.int PyData.int (eP PyData.int PyData.int) PyData.bool)) l_wishes_here), .v (.bool l_straight), .o (oL (eT5 PyData.int PyData.int (eP PyData.int PyData.int) (eP PyData.int PyData.int) PyData.bool) p_2), .v (.int a_1.1), .v ((eT4 PyData.int PyData.int (eP PyData.int PyData.int) PyData.bool) a_1.2), .v (.int l_over_1)]) (DW.toT (dw_or (dt_val (de_v 3 (pv 3))) (fun _ => (dw_or (dt_eqI (de_v 7 (pv 7)) (de_it (de_v 6 (pv 6)) de_int)) (fun _ => (dw_or1 (dt_eqI (de_v 7 (pv 7)) (de_it (de_v 6 (pv 6)) de_int)))))))) (fun c_2 => ?_) (fun c_2 => ?_) ?_
      · have q_c_2 := c_2
        try simp only [eqD_t, eqD_f, decide_eq_true_eq, decide_eq_false_iff_not, Bool.not_eq_true', Bool.not_eq_false', Bool.and_eq_true, Bool.or_eq_true, Bool.and_eq_false_iff, Bool.or_eq_false_iff, Bool.not_true, Bool.not_false, Bool.not_not, Decidable.not_not] at q_c_2
        obtain ⟨l_roads_here_2, e_l_roads_here_2⟩ : ∃ z : (List (T5 Int Int (Int × Int) (Int × Int) Bool)), z = (s_1 ++ [(m_l_road l_script ((40 : Int) + a_1.1) a_1.2.a a_1.2.b false)]) := ⟨_, rfl⟩
        refine ds_then (E' := [.v ((eL PyData.int) l_script), .v (.int l_many_here), .v ((eL (eT4 PyData.int PyData.int (eP PyData.int PyData.int) PyData.bool)) l_wishes_here), .v (.bool l_straight), .o (oL (eT5 PyData.int PyData.int (eP PyData.int PyData.int) (eP PyData.int PyData.int) PyData.bool) l_roads_here_2), .v (.int a_1.1), .v ((eT4 PyData.int PyData.int (eP PyData.int PyData.int) PyData.bool) a_1.2), .v (.int l_over_1)]) (ds_appendL (f := (eT5 PyData.int PyData.int (eP PyData.int PyData.int) (eP PyData.int PyData.int) PyData.bool)) (v := (m_l_road l_script ((40 : Int) + a_1.1) a_1.2.a a_1.2.b false)) (xs := s_1) (fun _ => pv 4) (de_call (f := "_law_road") (c_l_road.at hr) rfl (da_cons (de_v 0 (pv 0)) (da_cons (de_add de_int (de_v 5 (pv 5))) (da_cons (de_it (de_v 6 (pv 6)) de_int) (da_cons (de_it (de_v 6 (pv 6)) de_int) (da_cons de_bl da_nil))))) ⟨l_script, ((40 : Int) + a_1.1), a_1.2.a, a_1.2.b, false, (by first | omega | assumption | exact hi_1.six pre_0.2 | exact one_six pre_0.2 hwa.1 | exact (show 1 ≤ 3 by decide) | decide), (by first | omega | assumption | exact hi_1.six pre_0.2 | exact one_six pre_0.2 hwa.1 | exact (show 1 ≤ 3 by decide) | decide), rfl, rfl⟩) rfl (by rw [sizeLine_eq]; (have h7 := hi_1.len; (try simp only [List.length_append, List.length_cons, List.length_nil]); omega)) (by subst e_l_roads_here_2; rfl)) ?_
        have hlr_l_roads_here_2 := congrArg List.length e_l_roads_here_2
        try simp only [List.length_append, List.length_cons, List.length_nil] at hlr_l_roads_here_2
        exact ds_nil (by subst e_p_2 e_l_roads_here_2; (try simp only [c_1, c_2, cond_true, cond_false, Bool.not_true, Bool.not_false, goM, goN]); (show Le _ _); repeat (first | exact Le.nil | refine Le.same ?_ | refine Le.drop ?_))
      · have q_c_2 := c_2
        try simp only [eqD_t, eqD_f, decide_eq_true_eq, decide_eq_false_iff_not, Bool.not_eq_true', Bool.not_eq_false', Bool.and_eq_true, Bool.or_eq_true, Bool.and_eq_false_iff, Bool.or_eq_false_iff, Bool.not_true, Bool.not_false, Bool.not_not, Decidable.not_not] at q_c_2
        obtain ⟨l_roads_here_3, e_l_roads_here_3⟩ : ∃ z : (List (T5 Int Int (Int × Int) (Int × Int) Bool)), z = (s_1 ++ [(m_l_road l_script ((43 : Int) + a_1.1) a_1.2.a l_over_1 false)]) := ⟨_, rfl⟩
        refine ds_then (E' := [.v ((eL PyData.int) l_script), .v (.int l_many_here), .v ((eL (eT4 PyData.int PyData.int (eP PyData.int PyData.int) PyData.bool)) l_wishes_here), .v (.bool l_straight), .o (oL (eT5 PyData.int PyData.int (eP PyData.int PyData.int) (eP PyData.int PyData.int) PyData.bool) l_roads_here_3), .v (.int a_1.1), .v ((eT4 PyData.int PyData.int (eP PyData.int PyData.int) PyData.bool) a_1.2), .v (.int l_over_1)]) (ds_appendL (f := (eT5 PyData.int PyData.int (eP PyData.int PyData.int) (eP PyData.int PyData.int) PyData.bool)) (v := (m_l_road l_script ((43 : Int) + a_1.1) a_1.2.a l_over_1 false)) (xs := s_1) (fun _ => pv 4) (de_call (f := "_law_road") (c_l_road.at hr) rfl (da_cons (de_v 0 (pv 0)) (da_cons (de_add de_int (de_v 5 (pv 5))) (da_cons (de_it (de_v 6 (pv 6)) de_int) (da_cons (de_v 7 (pv 7)) (da_cons de_bl da_nil))))) ⟨l_script, ((43 : Int) + a_1.1), a_1.2.a, l_over_1, false, (by first | omega | assumption | exact hi_1.six pre_0.2 | exact one_six pre_0.2 hwa.1 | exact (show 1 ≤ 3 by decide) | decide), (by first | omega | assumption | exact hi_1.six pre_0.2 | exact one_six pre_0.2 hwa.1 | exact (show 1 ≤ 3 by decide) | decide), rfl, rfl⟩) rfl (by rw [sizeLine_eq]; (have h7 := hi_1.len; (try simp only [List.length_append, List.length_cons, List.length_nil]); omega)) (by subst e_l_roads_here_3; rfl)) ?_
        have hlr_l_roads_here_3 := congrArg List.length e_l_roads_here_3
        try simp only [List.length_append, List.length_cons, List.length_nil] at hlr_l_roads_here_3
        obtain ⟨l_roads_here_4, e_l_roads_here_4⟩ : ∃ z : (List (T5 Int Int (Int × Int) (Int × Int) Bool)), z = (l_roads_here_3 ++ [(m_l_road l_script ((46 : Int) + a_1.1) l_over_1 a_1.2.b false)]) := ⟨_, rfl⟩
        refine ds_then (E' := [.v ((eL PyData.int) l_script), .v (.int l_many_here), .v ((eL (eT4 PyData.int PyData.int (eP PyData.int PyData.int) PyData.bool)) l_wishes_here), .v (.bool l_straight), .o (oL (eT5 PyData.int PyData.int (eP PyData.int PyData.int) (eP PyData.int PyData.int) PyData.bool) l_roads_here_4), .v (.int a_1.1), .v ((eT4 PyData.int PyData.int (eP PyData.int PyData.int) PyData.bool) a_1.2), .v (.int l_over_1)]) (ds_appendL (f := (eT5 PyData.int PyData.int (eP PyData.int PyData.int) (eP PyData.int PyData.int) PyData.bool)) (v := (m_l_road l_script ((46 : Int) + a_1.1) l_over_1 a_1.2.b false)) (xs := l_roads_here_3) (fun _ => pv 4) (de_call (f := "_law_road") (c_l_road.at hr) rfl (da_cons (de_v 0 (pv 0)) (da_cons (de_add de_int (de_v 5 (pv 5))) (da_cons (de_v 7 (pv 7)) (da_cons (de_it (de_v 6 (pv 6)) de_int) (da_cons de_bl da_nil))))) ⟨l_script, ((46 : Int) + a_1.1), l_over_1, a_1.2.b, false, (by first | omega | assumption | exact hi_1.six pre_0.2 | exact one_six pre_0.2 hwa.1 | exact (show 1 ≤ 3 by decide) | decide), (by first | omega | assumption | exact hi_1.six pre_0.2 | exact one_six pre_0.2 hwa.1 | exact (show 1 ≤ 3 by decide) | decide), rfl, rfl⟩) rfl (by rw [sizeLine_eq]; (have h7 := hi_1.len; (try simp only [List.length_append, List.length_cons, List.length_nil]); omega)) (by subst e_l_roads_here_4; rfl)) ?_
        have hlr_l_roads_here_4 := congrArg List.length e_l_roads_here_4
        try simp only [List.length_append, List.length_cons, List.length_nil] at hlr_l_roads_here_4
        exact ds_nil (by subst e_p_2 e_l_roads_here_3 e_l_roads_here_4; (try simp only [c_1, c_2, cond_true, cond_false, Bool.not_true, Bool.not_false, goM, goN]); (show Le _ _); repeat (first | exact Le.nil | refine Le.same ?_ | refine Le.drop ?_))
      exact ds_nil (by subst e_p_1 e_p_2; (try simp only [c_1, cond_true, cond_false, Bool.not_true, Bool.not_false, goM, goN]); (show Le _ _); repeat (first | exact Le.nil | refine Le.same ?_ | refine Le.drop ?_))
    · have q_c_1 := c_1
      try simp only [eqD_t, eqD_f, decide_eq_true_eq, decide_eq_false_iff_not, Bool.not_eq_true', Bool.not_eq_false', Bool.and_eq_true, Bool.or_eq_true, Bool.and_eq_false_iff, Bool.or_eq_false_iff, Bool.not_true, Bool.not_false, Bool.not_not, Decidable.not_not] at q_c_1
      exact ds_nil (by subst e_p_1; (try simp only [c_1, cond_true, cond_false, Bool.not_true, Bool.not_false, goM, goN]); (show Le _ _); repeat (first | exact Le.nil | refine Le.same ?_ | refine Le.drop ?_))
    exact ds_nil ⟨p_1, (by subst e_l_roads_here_1 e_l_over_1 e_p_1; simp only [l_l_begun_1, cond_true, cond_false, Bool.not_true, Bool.not_false, goM, goN]; try rfl), (by repeat (first | exact Le.nil | refine Le.same ?_ | refine Le.drop ?_)), (by have hz := go_inv (v := p_1) (begun_walk (sc := l_script) (straight := l_straight) pre_0 hwa (pre_4 _ (enumL_in (List.mem_of_getElem? ha_1))) (by omega) hi_1) (by subst e_l_roads_here_1 e_l_over_1 e_p_1; simp only [l_l_begun_1, cond_true, cond_false, Bool.not_true, Bool.not_false, goM, goN]; try rfl); exact hz)⟩
  · intro r o f_1 ho hr_
    exact r.elim
  intro s_2 f_1 hi_1
  exact ds_ret (db_v 4 (pv 4)) (.inl (by subst e_l_roads_here_1; first | (simp only [m_l_begun, f_1, cond_true, cond_false, Bool.not_true, Bool.not_false, goM, goN]; first | done | rfl) | (simp only [m_l_begun]; rw [f_1]; first | done | rfl) | (simp only [m_l_begun]; (try dsimp only at f_1); (try simp only [f_1, cond_true, cond_false, Bool.not_true, Bool.not_false, goM, goN]); first | done | rfl)))
theorem begun_ok {sc : List Int} {m : Int} {straight : Bool} {ws : List (T4 Int Int Fr Bool)} (hm : 2 ≤ m ∧ m ≤ 6) (hn : ws.length ≤ 3) (hw : ∀ w ∈ ws, (0 ≤ w.a ∧ w.a < m) ∧ (0 ≤ w.b ∧ w.b < m)) (hne : ∀ w ∈ ws, w.a ≠ w.b) : RdI m 6 (m_l_begun sc m ws straight) ∧ (∀ w ∈ ws, Cn (usb (m_l_begun sc m ws straight) w.d) w.b [w.a]) ∧ (straight = true → (m_l_begun sc m ws straight).length ≤ 3) := by
  unfold m_l_begun
  simp only
  obtain ⟨s, e, h1, h2, h3⟩ := forG_inv (f := l_l_begun_1 sc m straight) (xs := enumL ws) (fun i s => RdI m (2 * i) s ∧ (straight = true → s.length ≤ i) ∧ ∀ j p, j < i → (enumL ws)[j]? = some p → Cn (usb s p.2.d) p.2.b [p.2.a]) (fun i a s ha hi => by
    have hl := get_lt ha
    rw [enumL_len] at hl
    obtain ⟨w1, w2⟩ := hw a.2 (enumL_in (List.mem_of_getElem? ha))
    obtain ⟨s', k1, k2, k3, k4, k5⟩ := begun_turn (sc := sc) (straight := straight) hm w1 w2 (hne a.2 (enumL_in (List.mem_of_getElem? ha))) (by omega) hi.1
    refine ⟨s', k1, k2, fun q => by have := k5 q; have := hi.2.1 q; omega, fun j p hj hp => ?_⟩
    by_cases c : j = i
    · subst c; rw [ha] at hp; cases hp; exact k4
    · exact (hi.2.2 j p (by omega) hp).mono (usb_mono k3)) (s := []) ⟨⟨Nat.le_refl 0, fun r hr => absurd hr List.not_mem_nil, fun r hr => absurd hr List.not_mem_nil⟩, fun _ => Nat.le_refl 0, fun j p hj => absurd hj (Nat.not_lt_zero _)⟩
  rw [goN_nx e]
  rw [enumL_len] at h1 h2 h3
  refine ⟨h1.mono (by omega), fun w hw => ?_, fun q => Nat.le_trans (h2 q) hn⟩
  obtain ⟨k, hk⟩ := enumL_of hw
  obtain ⟨j, hj⟩ := List.getElem?_of_mem hk
  have hl := get_lt hj
  rw [enumL_len] at hl
  exact h3 j (k, w) hl hj
def l_l_roads_1 (k_l_script : (List Int)) (k_l_many_here : Int) (k_l_wishes_here : (List (T4 Int Int (Int × Int) Bool))) (s_1 : (List (T5 Int Int (Int × Int) (Int × Int) Bool))) (a_1 : Int) : Go ((List (T5 Int Int (Int × Int) (Int × Int) Bool))) Empty := (let l_cell_here_1 := (m_l_mixed k_l_script ((4 : Int) + a_1)); (let l_start_1 := ((l_cell_here_1 / (7 : Int)) % k_l_many_here); (let l_end_1 := (((l_start_1 + (1 : Int)) + ((l_cell_here_1 / (49 : Int)) % (k_l_many_here - (1 : Int)))) % k_l_many_here); (let l_at_1 := ((l_cell_here_1 / (343 : Int)) % ((s_1.length : Int) + (1 : Int))); (let l_more_1 := (((cutG s_1 none (some l_at_1)) ++ ([(m_l_road k_l_script a_1 l_start_1 l_end_1 (decide (((l_cell_here_1 / (5 : Int)) % (4 : Int)) = (1 : Int))))] : (List (T5 Int Int (Int × Int) (Int × Int) Bool)))) ++ (cutG s_1 (some l_at_1) none)); (let p_2 := (bif ((decide ((l_more_1.length : Int) < (13 : Int))) && (decide ((m_l_many l_more_1 k_l_wishes_here) < (11 : Int)))) then l_more_1 else s_1); (.nx p_2)))))))
def m_l_roads (l_script : (List Int)) (l_many_here : Int) (l_wishes_here : (List (T4 Int Int (Int × Int) Bool))) : (List (T5 Int Int (Int × Int) (Int × Int) Bool)) := (let l_roads_here_1 := (m_l_begun l_script l_many_here l_wishes_here false); (let p_1 := (bif (decide ((10 : Int) < (m_l_many l_roads_here_1 l_wishes_here))) then (let l_roads_here_2 := (m_l_begun l_script l_many_here l_wishes_here true); l_roads_here_2) else l_roads_here_1); (goN (forG (l_l_roads_1 l_script l_many_here l_wishes_here) (rng 0 (14 : Int).toNat) p_1) (fun s_2 => s_2))))
structure RgI (m : Int) (ws : List (T4 Int Int Fr Bool)) (rs : List Rd) : Prop where
  rd : RdI m 12 rs
  cn : ∀ w ∈ ws, Cn (usb rs w.d) w.b [w.a]
  many : m_l_many rs ws ≤ 10
theorem many_few {rs : List Rd} {m : Int} : ∀ {ws : List (T4 Int Int Fr Bool)}, m ≤ 6 → RdI m 12 rs → rs.length ≤ 3 → (∀ w ∈ ws, 0 ≤ w.a ∧ w.a < m) → m_l_many rs ws ≤ 3 * (ws.length : Int)
  | [], _, _, _, _ => Int.le_refl 0
  | w :: ws, hm, h, h3, hw => by
    have ih := many_few (ws := ws) hm h h3 (fun v hv => hw v (List.mem_cons_of_mem _ hv))
    have h0 := hw w List.mem_cons_self
    have h1 : m_l_listed rs w.a w.b w.d ≤ 3 := by
      rw [listed_cnt, cnt_eq]
      have hu := usb_len rs w.d
      have h9 : (dfs (usb rs w.d) w.a w.b).length ≤ 3 := Nat.le_trans (dfs_few (usb_us (Nat.le_trans h.len (by decide)) fun r hr => (h.six hm r hr).2) (by omega) (by omega)) (by omega)
      omega
    unfold m_l_many at *
    rw [List.map_cons, List.sum_cons, List.length_cons]
    omega
theorem roads_0 {sc : List Int} {m : Int} {ws : List (T4 Int Int Fr Bool)} {p r : List Rd} (hm : 2 ≤ m ∧ m ≤ 6) (hn : ws.length ≤ 3) (hw : ∀ w ∈ ws, (0 ≤ w.a ∧ w.a < m) ∧ (0 ≤ w.b ∧ w.b < m)) (hne : ∀ w ∈ ws, w.a ≠ w.b) (er : r = m_l_begun sc m ws false) (ep : p = bif decide ((10 : Int) < m_l_many r ws) then m_l_begun sc m ws true else r) : RgI m ws p := by
  subst er
  by_cases c : (10 : Int) < m_l_many (m_l_begun sc m ws false) ws
  · rw [decide_eq_true c, cond_true] at ep
    obtain ⟨h1, h2, h3⟩ := begun_ok (sc := sc) (straight := true) hm hn hw hne
    rw [ep]
    have h4 := many_few hm.2 (h1.mono (by decide)) (h3 rfl) (fun w hx => (hw w hx).1)
    exact ⟨h1.mono (by decide), h2, by omega⟩
  · rw [decide_eq_false c, cond_false] at ep
    obtain ⟨h1, h2, h3⟩ := begun_ok (sc := sc) (straight := false) hm hn hw hne
    rw [ep]
    exact ⟨h1.mono (by decide), h2, by omega⟩
theorem more_ok {m : Int} {n : Nat} {s : List Rd} {r : Rd} {q : Int} (h : RdI m n s) (h1 : 0 ≤ r.a ∧ r.a < m) (h2 : 0 ≤ r.b ∧ r.b < m) (h3 : r.a ≠ r.b ∧ FrG r.c ∧ FrG r.d) : RdI m (n + 1) ((cutG s none (some q) ++ [r]) ++ cutG s (some q) none) ∧ ∀ x ∈ s, x ∈ ((cutG s none (some q) ++ [r]) ++ cutG s (some q) none) := by
  have hs := cut_split s q
  generalize cutG s none (some q) = a at *
  generalize cutG s (some q) none = b at *
  have hl := congrArg List.length hs
  rw [List.length_append] at hl
  refine ⟨⟨by simp only [List.length_append, List.length_cons, List.length_nil]; have := h.len; omega, fun x hx => ?_, fun x hx => ?_⟩, fun x hx => ?_⟩
  · rcases List.mem_append.mp hx with z | z
    · rcases List.mem_append.mp z with z | z
      · exact h.ends x (by rw [← hs]; exact List.mem_append_left _ z)
      · rw [List.mem_singleton.mp z]; exact ⟨h1, h2⟩
    · exact h.ends x (by rw [← hs]; exact List.mem_append_right _ z)
  · rcases List.mem_append.mp hx with z | z
    · rcases List.mem_append.mp z with z | z
      · exact h.fr x (by rw [← hs]; exact List.mem_append_left _ z)
      · rw [List.mem_singleton.mp z]; exact h3
    · exact h.fr x (by rw [← hs]; exact List.mem_append_right _ z)
  · rw [← hs] at hx
    rcases List.mem_append.mp hx with z | z
    · exact List.mem_append_left _ (List.mem_append_left _ z)
    · exact List.mem_append_right _ z
theorem roads_turn {sc : List Int} {m : Int} {ws : List (T4 Int Int Fr Bool)} {s : List Rd} {a : Int} (hm : 2 ≤ m ∧ m ≤ 6) (h : RgI m ws s) : ∃ s', l_l_roads_1 sc m ws s a = .nx s' ∧ RgI m ws s' := by
  unfold l_l_roads_1
  refine ⟨_, rfl, ?_⟩
  try simp only
  generalize m_l_mixed sc (4 + a) = c
  have h1 : 0 ≤ (c / 7) % m ∧ (c / 7) % m < m := ⟨Int.emod_nonneg _ (by omega), Int.emod_lt_of_pos _ (by omega)⟩
  have h2 : 0 ≤ (c / 49) % (m - 1) ∧ (c / 49) % (m - 1) < m - 1 := ⟨Int.emod_nonneg _ (by omega), Int.emod_lt_of_pos _ (by omega)⟩
  have h3 : 0 ≤ (((c / 7) % m + 1) + (c / 49) % (m - 1)) % m ∧ (((c / 7) % m + 1) + (c / 49) % (m - 1)) % m < m := ⟨Int.emod_nonneg _ (by omega), Int.emod_lt_of_pos _ (by omega)⟩
  obtain ⟨k1, k2⟩ := more_ok (r := m_l_road sc a ((c / 7) % m) ((((c / 7) % m + 1) + (c / 49) % (m - 1)) % m) (decide ((c / 5) % 4 = 1))) (q := (c / 343) % ((s.length : Int) + 1)) h.rd h1 h3 ⟨fun z => ne_mod h1 h2 z.symm, fraction_ok _ _, fraction_ok _ _⟩
  generalize (cutG s none (some ((c / 343) % ((s.length : Int) + 1))) ++ [m_l_road sc a ((c / 7) % m) ((((c / 7) % m + 1) + (c / 49) % (m - 1)) % m) (decide ((c / 5) % 4 = 1))]) ++ cutG s (some ((c / 343) % ((s.length : Int) + 1))) none = more at *
  by_cases c1 : (more.length : Int) < 13 ∧ m_l_many more ws < 11
  · rw [decide_eq_true c1.1, decide_eq_true c1.2]
    exact ⟨⟨by show more.length ≤ 12; omega, k1.ends, k1.fr⟩, fun w hw => (h.cn w hw).mono (usb_mono k2), by show m_l_many more ws ≤ 10; omega⟩
  · have e : (decide ((more.length : Int) < 13) && decide (m_l_many more ws < 11)) = false := by
      by_cases c2 : (more.length : Int) < 13
      · rw [decide_eq_true c2, decide_eq_false (fun z => c1 ⟨c2, z⟩)]; rfl
      · rw [decide_eq_false c2]; rfl
    rw [e]
    exact h
theorem all_six {m : Int} {ws : List (T4 Int Int Fr Bool)} (hm : m ≤ 6) (h : ∀ w ∈ ws, (0 ≤ w.a ∧ w.a < m) ∧ (0 ≤ w.b ∧ w.b < m)) : ∀ w ∈ ws, 0 ≤ w.a ∧ w.a < 6 := fun w hw => by have := h w hw; omega
def r_l_roads (xs : List PyData) (r : Res) : Prop := ∃ (l_script : (List Int)) (l_many_here : Int) (l_wishes_here : (List (T4 Int Int (Int × Int) Bool))), (2 ≤ l_many_here ∧ l_many_here ≤ 6) ∧ (l_script.length ≤ 63) ∧ (l_wishes_here.length ≤ 3) ∧ (∀ w ∈ l_wishes_here, (0 ≤ w.a ∧ w.a < l_many_here) ∧ (0 ≤ w.b ∧ w.b < l_many_here)) ∧ (∀ w ∈ l_wishes_here, w.a ≠ w.b) ∧ xs = [((eL PyData.int) l_script), (.int l_many_here), ((eL (eT4 PyData.int PyData.int (eP PyData.int PyData.int) PyData.bool)) l_wishes_here)] ∧ r = .v ((eL (eT5 PyData.int PyData.int (eP PyData.int PyData.int) (eP PyData.int PyData.int) PyData.bool)) (m_l_roads l_script l_many_here l_wishes_here))
abbrev N_l_roads : List Str := ["_law_script", "_law_many_here", "_law_wishes_here", "_law_roads_here", "_law_k", "_law_cell_here", "_law_start", "_law_end", "_law_at", "_law_more"]
theorem sc_l_roads : FnScope N_l_roads ["_law_script", "_law_many_here", "_law_wishes_here"] (defScope s_l_roads) := ⟨rfl, rfl, rfl, by decide +kernel, rfl, by decide +kernel, by decide +kernel⟩
theorem ok_l_roads (F : Def K mg "_law_roads" s_l_roads ["_law_script", "_law_many_here", "_law_wishes_here"]) (T : Txt K mg A) (c_l_mixed : Cal P w K mg base "_law_mixed" 2 r_l_mixed 2) (c_l_many : Cal P w K mg base "_law_many" 2 r_l_many 2) (c_l_road : Cal P w K mg base "_law_road" 5 r_l_road 4) (c_l_begun : Cal P w K mg base "_law_begun" 4 r_l_begun 5) : Cal P w K mg base "_law_roads" 3 r_l_roads 6 := by
  refine cal_ok F sc_l_roads rfl fun fa cdv AA outer ss HH EE X hX C hr xs r hl hR => ?_
  obtain ⟨l_script, l_many_here, l_wishes_here, pre_0, pre_1, pre_2, pre_3, pre_4, rfl, rfl⟩ := hR
  subst hX
  show DSs _ _ _ [.v ((eL PyData.int) l_script), .v (.int l_many_here), .v ((eL (eT4 PyData.int PyData.int (eP PyData.int PyData.int) PyData.bool)) l_wishes_here), .no, .no, .no, .no, .no, .no, .no] _
  obtain ⟨l_roads_here_1, e_l_roads_here_1⟩ : ∃ z : (List (T5 Int Int (Int × Int) (Int × Int) Bool)), z = (m_l_begun l_script l_many_here l_wishes_here false) := ⟨_, rfl⟩
  refine ds_then (E' := [.v ((eL PyData.int) l_script), .v (.int l_many_here), .v ((eL (eT4 PyData.int PyData.int (eP PyData.int PyData.int) PyData.bool)) l_wishes_here), .v ((eL (eT5 PyData.int PyData.int (eP PyData.int PyData.int) (eP PyData.int PyData.int) PyData.bool)) l_roads_here_1), .no, .no, .no, .no, .no, .no]) (ds_set (x := ((eL (eT5 PyData.int PyData.int (eP PyData.int PyData.int) (eP PyData.int PyData.int) PyData.bool)) l_roads_here_1)) (ln 3 sc_l_roads.nd) (deC (by subst e_l_roads_here_1; rfl) (DN.toL (f := (eT5 PyData.int PyData.int (eP PyData.int PyData.int) (eP PyData.int PyData.int) PyData.bool)) (xs := (m_l_begun l_script l_many_here l_wishes_here false)) (dn_call (f := "_law_begun") (t := (oL (eT5 PyData.int PyData.int (eP PyData.int PyData.int) (eP PyData.int PyData.int) PyData.bool)) (m_l_begun l_script l_many_here l_wishes_here false)) (c_l_begun.at hr) rfl (da_cons (de_v 0 (pv 0)) (da_cons (de_v 1 (pv 1)) (da_cons (de_v 2 (pv 2)) (da_cons de_bl da_nil)))) ⟨l_script, l_many_here, l_wishes_here, false, (by first | omega | assumption | exact hbg.six pre_0.2 | exact hmo.six pre_0.2 | exact all_six pre_0.2 pre_3 | decide), (by first | omega | assumption | exact hbg.six pre_0.2 | exact hmo.six pre_0.2 | exact all_six pre_0.2 pre_3 | decide), (by first | omega | assumption | exact hbg.six pre_0.2 | exact hmo.six pre_0.2 | exact all_six pre_0.2 pre_3 | decide), (by first | omega | assumption | exact hbg.six pre_0.2 | exact hmo.six pre_0.2 | exact all_six pre_0.2 pre_3 | decide), (by first | omega | assumption | exact hbg.six pre_0.2 | exact hmo.six pre_0.2 | exact all_six pre_0.2 pre_3 | decide), rfl, rfl⟩)))) ?_
  have hbg := (begun_ok (sc := l_script) (straight := false) pre_0 pre_2 pre_3 pre_4).1
  try rw [← e_l_roads_here_1] at hbg
  have hbl := hbg.len
  obtain ⟨p_1, e_p_1⟩ : ∃ z : (List (T5 Int Int (Int × Int) (Int × Int) Bool)), z = (bif (decide ((10 : Int) < (m_l_many l_roads_here_1 l_wishes_here))) then (let l_roads_here_2 := (m_l_begun l_script l_many_here l_wishes_here true); l_roads_here_2) else l_roads_here_1) := ⟨_, rfl⟩
  try dsimp only at e_p_1
  refine ds_ifl (E' := [.v ((eL PyData.int) l_script), .v (.int l_many_here), .v ((eL (eT4 PyData.int PyData.int (eP PyData.int PyData.int) PyData.bool)) l_wishes_here), .v ((eL (eT5 PyData.int PyData.int (eP PyData.int PyData.int) (eP PyData.int PyData.int) PyData.bool)) p_1), .no, .no, .no, .no, .no, .no]) (dt_gt (de_call (f := "_law_many") (c_l_many.at hr) rfl (da_cons (de_v 3 (pv 3)) (da_cons (de_v 2 (pv 2)) da_nil)) ⟨l_roads_here_1, l_wishes_here, (by first | omega | assumption | exact hbg.six pre_0.2 | exact hmo.six pre_0.2 | exact all_six pre_0.2 pre_3 | decide), (by first | omega | assumption | exact hbg.six pre_0.2 | exact hmo.six pre_0.2 | exact all_six pre_0.2 pre_3 | decide), (by first | omega | assumption | exact hbg.six pre_0.2 | exact hmo.six pre_0.2 | exact all_six pre_0.2 pre_3 | decide), (by first | omega | assumption | exact hbg.six pre_0.2 | exact hmo.six pre_0.2 | exact all_six pre_0.2 pre_3 | decide), rfl, rfl⟩) de_int) (fun c_1 => ?_) (fun c_1 => ?_) ?_
  · have q_c_1 := c_1
    try simp only [eqD_t, eqD_f, decide_eq_true_eq, decide_eq_false_iff_not, Bool.not_eq_true', Bool.not_eq_false', Bool.and_eq_true, Bool.or_eq_true, Bool.and_eq_false_iff, Bool.or_eq_false_iff, Bool.not_true, Bool.not_false, Bool.not_not, Decidable.not_not] at q_c_1
    obtain ⟨l_roads_here_2, e_l_roads_here_2⟩ : ∃ z : (List (T5 Int Int (Int × Int) (Int × Int) Bool)), z = (m_l_begun l_script l_many_here l_wishes_here true) := ⟨_, rfl⟩
    refine ds_then (E' := [.v ((eL PyData.int) l_script), .v (.int l_many_here), .v ((eL (eT4 PyData.int PyData.int (eP PyData.int PyData.int) PyData.bool)) l_wishes_here), .v ((eL (eT5 PyData.int PyData.int (eP PyData.int PyData.int) (eP PyData.int PyData.int) PyData.bool)) l_roads_here_2), .no, .no, .no, .no, .no, .no]) (ds_set (x := ((eL (eT5 PyData.int PyData.int (eP PyData.int PyData.int) (eP PyData.int PyData.int) PyData.bool)) l_roads_here_2)) (ln 3 sc_l_roads.nd) (deC (by subst e_l_roads_here_2; rfl) (DN.toL (f := (eT5 PyData.int PyData.int (eP PyData.int PyData.int) (eP PyData.int PyData.int) PyData.bool)) (xs := (m_l_begun l_script l_many_here l_wishes_here true)) (dn_call (f := "_law_begun") (t := (oL (eT5 PyData.int PyData.int (eP PyData.int PyData.int) (eP PyData.int PyData.int) PyData.bool)) (m_l_begun l_script l_many_here l_wishes_here true)) (c_l_begun.at hr) rfl (da_cons (de_v 0 (pv 0)) (da_cons (de_v 1 (pv 1)) (da_cons (de_v 2 (pv 2)) (da_cons de_bl da_nil)))) ⟨l_script, l_many_here, l_wishes_here, true, (by first | omega | assumption | exact hbg.six pre_0.2 | exact hmo.six pre_0.2 | exact all_six pre_0.2 pre_3 | decide), (by first | omega | assumption | exact hbg.six pre_0.2 | exact hmo.six pre_0.2 | exact all_six pre_0.2 pre_3 | decide), (by first | omega | assumption | exact hbg.six pre_0.2 | exact hmo.six pre_0.2 | exact all_six pre_0.2 pre_3 | decide), (by first | omega | assumption | exact hbg.six pre_0.2 | exact hmo.six pre_0.2 | exact all_six pre_0.2 pre_3 | decide), (by first | omega | assumption | exact hbg.six pre_0.2 | exact hmo.six pre_0.2 | exact all_six pre_0.2 pre_3 | decide), rfl, rfl⟩)))) ?_
    have hbg := (begun_ok (sc := l_script) (straight := false) pre_0 pre_2 pre_3 pre_4).1
    try rw [← e_l_roads_here_2] at hbg
    have hbl := hbg.len
    exact ds_nil (by subst e_p_1 e_l_roads_here_2; (try simp only [c_1, cond_true, cond_false, Bool.not_true, Bool.not_false, goM, goN]); (show Le _ _); repeat (first | exact Le.nil | refine Le.same ?_ | refine Le.drop ?_))
  · have q_c_1 := c_1
    try simp only [eqD_t, eqD_f, decide_eq_true_eq, decide_eq_false_iff_not, Bool.not_eq_true', Bool.not_eq_false', Bool.and_eq_true, Bool.or_eq_true, Bool.and_eq_false_iff, Bool.or_eq_false_iff, Bool.not_true, Bool.not_false, Bool.not_not, Decidable.not_not] at q_c_1
    exact ds_nil (by subst e_p_1; (try simp only [c_1, cond_true, cond_false, Bool.not_true, Bool.not_false, goM, goN]); (show Le _ _); repeat (first | exact Le.nil | refine Le.same ?_ | refine Le.drop ?_))
  refine ds_forG (items := (rng 0 (14 : Int).toNat)) (ea := PyData.int) (fun (s_1 : (List (T5 Int Int (Int × Int) (Int × Int) Bool))) => [.v ((eL PyData.int) l_script), .v (.int l_many_here), .v ((eL (eT4 PyData.int PyData.int (eP PyData.int PyData.int) PyData.bool)) l_wishes_here), .v ((eL (eT5 PyData.int PyData.int (eP PyData.int PyData.int) (eP PyData.int PyData.int) PyData.bool)) s_1), .no, .no, .no, .no, .no, .no]) (l_l_roads_1 l_script l_many_here l_wishes_here) p_1 (fun (i_1 : Nat) (s_1 : (List (T5 Int Int (Int × Int) (Int × Int) Bool))) => RgI l_many_here l_wishes_here s_1) (fun (s_1 : (List (T5 Int Int (Int × Int) (Int × Int) Bool))) => RgI l_many_here l_wishes_here s_1) (fun (_ : Empty) _ => False) C (di_range1L de_int ⟨by omega, by omega⟩ rfl T.b_range) (tg_name (ln 4 sc_l_roads.nd)) (by repeat (first | exact Le.nil | refine Le.same ?_ | refine Le.drop ?_)) (by exact roads_0 (sc := l_script) pre_0 pre_2 pre_3 pre_4 e_l_roads_here_1 e_p_1) ?_ (fun _ h => h) ?_ ?_
  · intro i_1 a_1 s_1 ha_1 hi_1
    refine ⟨[.v ((eL PyData.int) l_script), .v (.int l_many_here), .v ((eL (eT4 PyData.int PyData.int (eP PyData.int PyData.int) PyData.bool)) l_wishes_here), .v ((eL (eT5 PyData.int PyData.int (eP PyData.int PyData.int) (eP PyData.int PyData.int) PyData.bool)) s_1), .v (.int a_1), .no, .no, .no, .no, .no], rfl, ?_⟩
    have hrg := rng_get ha_1
    have hrl := hi_1.rd.len
    obtain ⟨l_cell_here_1, e_l_cell_here_1⟩ : ∃ z : Int, z = (m_l_mixed l_script ((4 : Int) + a_1)) := ⟨_, rfl⟩
    refine ds_then (E' := [.v ((eL PyData.int) l_script), .v (.int l_many_here), .v ((eL (eT4 PyData.int PyData.int (eP PyData.int PyData.int) PyData.bool)) l_wishes_here), .v ((eL (eT5 PyData.int PyData.int (eP PyData.int PyData.int) (eP PyData.int PyData.int) PyData.bool)) s_1), .v (.int a_1), .v (.int l_cell_here_1), .no, .no, .no, .no]) (ds_set (x := (.int l_cell_here_1)) (ln 5 sc_l_roads.nd) (deC (by subst e_l_cell_here_1; rfl) (de_call (f := "_law_mixed") (c_l_mixed.at hr) rfl (da_cons (de_v 0 (pv 0)) (da_cons (de_add de_int (de_v 4 (pv 4))) da_nil)) ⟨l_script, ((4 : Int) + a_1), (by first | omega | assumption | exact hbg.six pre_0.2 | exact hmo.six pre_0.2 | exact all_six pre_0.2 pre_3 | decide), (by first | omega | assumption | exact hbg.six pre_0.2 | exact hmo.six pre_0.2 | exact all_six pre_0.2 pre_3 | decide), rfl, rfl⟩))) ?_
    have hmx : 0 ≤ l_cell_here_1 := by rw [e_l_cell_here_1]; exact mixed_nn _ _
    obtain ⟨l_start_1, e_l_start_1⟩ : ∃ z : Int, z = ((l_cell_here_1 / (7 : Int)) % l_many_here) := ⟨_, rfl⟩
    refine ds_then (E' := [.v ((eL PyData.int) l_script), .v (.int l_many_here), .v ((eL (eT4 PyData.int PyData.int (eP PyData.int PyData.int) PyData.bool)) l_wishes_here), .v ((eL (eT5 PyData.int PyData.int (eP PyData.int PyData.int) (eP PyData.int PyData.int) PyData.bool)) s_1), .v (.int a_1), .v (.int l_cell_here_1), .v (.int l_start_1), .no, .no, .no]) (ds_set (x := (.int l_start_1)) (ln 6 sc_l_roads.nd) (deC (by subst e_l_start_1; rfl) (de_mod (de_div (de_v 5 (pv 5)) de_int ⟨by decide, by decide⟩) (de_v 1 (pv 1)) (by first | omega | assumption | exact hbg.six pre_0.2 | exact hmo.six pre_0.2 | exact all_six pre_0.2 pre_3 | decide)))) ?_
    have hst : 0 ≤ l_start_1 ∧ l_start_1 < l_many_here := by rw [e_l_start_1]; exact ⟨Int.emod_nonneg _ (by omega), Int.emod_lt_of_pos _ (by omega)⟩
    obtain ⟨l_end_1, e_l_end_1⟩ : ∃ z : Int, z = (((l_start_1 + (1 : Int)) + ((l_cell_here_1 / (49 : Int)) % (l_many_here - (1 : Int)))) % l_many_here) := ⟨_, rfl⟩
    refine ds_then (E' := [.v ((eL PyData.int) l_script), .v (.int l_many_here), .v ((eL (eT4 PyData.int PyData.int (eP PyData.int PyData.int) PyData.bool)) l_wishes_here), .v ((eL (eT5 PyData.int PyData.int (eP PyData.int PyData.int) (eP PyData.int PyData.int) PyData.bool)) s_1), .v (.int a_1), .v (.int l_cell_here_1), .v (.int l_start_1), .v (.int l_end_1), .no, .no]) (ds_set (x := (.int l_end_1)) (ln 7 sc_l_roads.nd) (deC (by subst e_l_end_1; rfl) (de_mod (de_add (de_add (de_v 6 (pv 6)) de_int) (de_mod (de_div (de_v 5 (pv 5)) de_int ⟨by decide, by decide⟩) (de_sub (de_v 1 (pv 1)) de_int) (by first | omega | assumption | exact hbg.six pre_0.2 | exact hmo.six pre_0.2 | exact all_six pre_0.2 pre_3 | decide))) (de_v 1 (pv 1)) (by first | omega | assumption | exact hbg.six pre_0.2 | exact hmo.six pre_0.2 | exact all_six pre_0.2 pre_3 | decide)))) ?_
    have hen : 0 ≤ l_end_1 ∧ l_end_1 < l_many_here := by rw [e_l_end_1]; exact ⟨Int.emod_nonneg _ (by omega), Int.emod_lt_of_pos _ (by omega)⟩
    have hne : l_start_1 ≠ l_end_1 := by rw [e_l_end_1]; exact fun z => ne_mod hst ⟨Int.emod_nonneg _ (by omega), Int.emod_lt_of_pos _ (by omega)⟩ z.symm
    obtain ⟨l_at_1, e_l_at_1⟩ : ∃ z : Int, z = ((l_cell_here_1 / (343 : Int)) % ((s_1.length : Int) + (1 : Int))) := ⟨_, rfl⟩
    refine ds_then (E' := [.v ((eL PyData.int) l_script), .v (.int l_many_here), .v ((eL (eT4 PyData.int PyData.int (eP PyData.int PyData.int) PyData.bool)) l_wishes_here), .v ((eL (eT5 PyData.int PyData.int (eP PyData.int PyData.int) (eP PyData.int PyData.int) PyData.bool)) s_1), .v (.int a_1), .v (.int l_cell_here_1), .v (.int l_start_1), .v (.int l_end_1), .v (.int l_at_1), .no]) (ds_set (x := (.int l_at_1)) (ln 8 sc_l_roads.nd) (deC (by subst e_l_at_1; rfl) (de_mod (de_div (de_v 5 (pv 5)) de_int ⟨by decide, by decide⟩) (de_add (de_lenL (de_v 3 (pv 3)) rfl T.b_len) de_int) (by first | omega | assumption | exact hbg.six pre_0.2 | exact hmo.six pre_0.2 | exact all_six pre_0.2 pre_3 | decide)))) ?_
    obtain ⟨l_more_1, e_l_more_1⟩ : ∃ z : (List (T5 Int Int (Int × Int) (Int × Int) Bool)), z = (((cutG s_1 none (some l_at_1)) ++ ([(m_l_road l_script a_1 l_start_1 l_end_1 (decide (((l_cell_here_1 / (5 : Int)) % (4 : Int)) = (1 : Int))))] : (List (T5 Int Int (Int × Int) (Int × Int) Bool)))) ++ (cutG s_1 (some l_at_1) none)) := ⟨_, rfl⟩
    refine ds_then (E' := [.v ((eL PyData.int) l_script), .v (.int l_many_here), .v ((eL (eT4 PyData.int PyData.int (eP PyData.int PyData.int) PyData.bool)) l_wishes_here), .v ((eL (eT5 PyData.int PyData.int (eP PyData.int PyData.int) (eP PyData.int PyData.int) PyData.bool)) s_1), .v (.int a_1), .v (.int l_cell_here_1), .v (.int l_start_1), .v (.int l_end_1), .v (.int l_at_1), .v ((eL (eT5 PyData.int PyData.int (eP PyData.int PyData.int) (eP PyData.int PyData.int) PyData.bool)) l_more_1)]) (ds_set (x := ((eL (eT5 PyData.int PyData.int (eP PyData.int PyData.int) (eP PyData.int PyData.int) PyData.bool)) l_more_1)) (ln 9 sc_l_roads.nd) (deC (by subst e_l_more_1; rfl) (DN.toL (f := (eT5 PyData.int PyData.int (eP PyData.int PyData.int) (eP PyData.int PyData.int) PyData.bool)) (xs := (((cutG s_1 none (some l_at_1)) ++ ([(m_l_road l_script a_1 l_start_1 l_end_1 (decide (((l_cell_here_1 / (5 : Int)) % (4 : Int)) = (1 : Int))))] : (List (T5 Int Int (Int × Int) (Int × Int) Bool)))) ++ (cutG s_1 (some l_at_1) none))) (dn_catL (DN.toL (f := (eT5 PyData.int PyData.int (eP PyData.int PyData.int) (eP PyData.int PyData.int) PyData.bool)) (xs := ((cutG s_1 none (some l_at_1)) ++ ([(m_l_road l_script a_1 l_start_1 l_end_1 (decide (((l_cell_here_1 / (5 : Int)) % (4 : Int)) = (1 : Int))))] : (List (T5 Int Int (Int × Int) (Int × Int) Bool))))) (dn_catL (DN.toL (f := (eT5 PyData.int PyData.int (eP PyData.int PyData.int) (eP PyData.int PyData.int) PyData.bool)) (xs := (cutG s_1 none (some l_at_1))) (dn_cutL (de_v 3 (pv 3)) do_non (do_som (de_v 8 (pv 8))))) (DN.toL (f := (eT5 PyData.int PyData.int (eP PyData.int PyData.int) (eP PyData.int PyData.int) PyData.bool)) (xs := ([(m_l_road l_script a_1 l_start_1 l_end_1 (decide (((l_cell_here_1 / (5 : Int)) % (4 : Int)) = (1 : Int))))] : (List (T5 Int Int (Int × Int) (Int × Int) Bool)))) (dn_lst (da_cons (de_call (f := "_law_road") (c_l_road.at hr) rfl (da_cons (de_v 0 (pv 0)) (da_cons (de_v 4 (pv 4)) (da_cons (de_v 6 (pv 6)) (da_cons (de_v 7 (pv 7)) (da_cons (de_eqI (de_mod (de_div (de_v 5 (pv 5)) de_int ⟨by decide, by decide⟩) de_int (by decide)) de_int) da_nil))))) ⟨l_script, a_1, l_start_1, l_end_1, (decide (((l_cell_here_1 / (5 : Int)) % (4 : Int)) = (1 : Int))), (by first | omega | assumption | exact hbg.six pre_0.2 | exact hmo.six pre_0.2 | exact all_six pre_0.2 pre_3 | decide), (by first | omega | assumption | exact hbg.six pre_0.2 | exact hmo.six pre_0.2 | exact all_six pre_0.2 pre_3 | decide), rfl, rfl⟩) da_nil))) (by rw [sizeLine_eq]; first | omega | (have hrl := hi_1.rd.len; (try simp only [List.length_append, List.length_cons, List.length_nil]); have c1 := cutG_len s_1 none (some l_at_1); have c2 := cutG_len s_1 (some l_at_1) none; omega) | (simp only [List.length_append, List.length_cons, List.length_nil, List.length_map, List.length_replicate]; omega)))) (DN.toL (f := (eT5 PyData.int PyData.int (eP PyData.int PyData.int) (eP PyData.int PyData.int) PyData.bool)) (xs := (cutG s_1 (some l_at_1) none)) (dn_cutL (de_v 3 (pv 3)) (do_som (de_v 8 (pv 8))) do_non)) (by rw [sizeLine_eq]; first | omega | (have hrl := hi_1.rd.len; (try simp only [List.length_append, List.length_cons, List.length_nil]); have c1 := cutG_len s_1 none (some l_at_1); have c2 := cutG_len s_1 (some l_at_1) none; omega) | (simp only [List.length_append, List.length_cons, List.length_nil, List.length_map, List.length_replicate]; omega)))))) ?_
    have hmo := (more_ok (r := m_l_road l_script a_1 l_start_1 l_end_1 (decide ((l_cell_here_1 / 5) % 4 = 1))) (q := l_at_1) hi_1.rd hst hen ⟨hne, fraction_ok _ _, fraction_ok _ _⟩).1
    rw [← e_l_more_1] at hmo
    have hml := hmo.len
    obtain ⟨p_2, e_p_2⟩ : ∃ z : (List (T5 Int Int (Int × Int) (Int × Int) Bool)), z = (bif ((decide ((l_more_1.length : Int) < (13 : Int))) && (decide ((m_l_many l_more_1 l_wishes_here) < (11 : Int)))) then l_more_1 else s_1) := ⟨_, rfl⟩
    refine ds_ifl (E' := [.v ((eL PyData.int) l_script), .v (.int l_many_here), .v ((eL (eT4 PyData.int PyData.int (eP PyData.int PyData.int) PyData.bool)) l_wishes_here), .v ((eL (eT5 PyData.int PyData.int (eP PyData.int PyData.int) (eP PyData.int PyData.int) PyData.bool)) p_2), .v (.int a_1), .v (.int l_cell_here_1), .v (.int l_start_1), .v (.int l_end_1), .v (.int l_at_1), .v ((eL (eT5 PyData.int PyData.int (eP PyData.int PyData.int) (eP PyData.int PyData.int) PyData.bool)) l_more_1)]) (DW.toT (dw_and (dt_lt (de_lenL (de_v 9 (pv 9)) rfl T.b_len) de_int) (fun h_1 => by have q := h_1; (try simp only [eqD_t, eqD_f, decide_eq_true_eq, decide_eq_false_iff_not, Bool.not_eq_true', Bool.not_eq_false', Bool.and_eq_true, Bool.or_eq_true, Bool.and_eq_false_iff, Bool.or_eq_false_iff, Bool.not_true, Bool.not_false, Bool.not_not, Decidable.not_not] at q); exact (dw_and1 (dt_lt (de_call (f := "_law_many") (c_l_many.at hr) rfl (da_cons (de_v 9 (pv 9)) (da_cons (de_v 2 (pv 2)) da_nil)) ⟨l_more_1, l_wishes_here, (by first | omega | assumption | exact hbg.six pre_0.2 | exact hmo.six pre_0.2 | exact all_six pre_0.2 pre_3 | decide), (by first | omega | assumption | exact hbg.six pre_0.2 | exact hmo.six pre_0.2 | exact all_six pre_0.2 pre_3 | decide), (by first | omega | assumption | exact hbg.six pre_0.2 | exact hmo.six pre_0.2 | exact all_six pre_0.2 pre_3 | decide), (by first | omega | assumption | exact hbg.six pre_0.2 | exact hmo.six pre_0.2 | exact all_six pre_0.2 pre_3 | decide), rfl, rfl⟩) de_int))))) (fun c_2 => ?_) (fun c_2 => ?_) ?_
    · have q_c_2 := c_2
      try simp only [eqD_t, eqD_f, decide_eq_true_eq, decide_eq_false_iff_not, Bool.not_eq_true', Bool.not_eq_false', Bool.and_eq_true, Bool.or_eq_true, Bool.and_eq_false_iff, Bool.or_eq_false_iff, Bool.not_true, Bool.not_false, Bool.not_not, Decidable.not_not] at q_c_2
      refine ds_then (E' := [.v ((eL PyData.int) l_script), .v (.int l_many_here), .v ((eL (eT4 PyData.int PyData.int (eP PyData.int PyData.int) PyData.bool)) l_wishes_here), .v ((eL (eT5 PyData.int PyData.int (eP PyData.int PyData.int) (eP PyData.int PyData.int) PyData.bool)) l_more_1), .v (.int a_1), .v (.int l_cell_here_1), .v (.int l_start_1), .v (.int l_end_1), .v (.int l_at_1), .v ((eL (eT5 PyData.int PyData.int (eP PyData.int PyData.int) (eP PyData.int PyData.int) PyData.bool)) l_more_1)]) (ds_set (x := ((eL (eT5 PyData.int PyData.int (eP PyData.int PyData.int) (eP PyData.int PyData.int) PyData.bool)) l_more_1)) (ln 3 sc_l_roads.nd) (de_v 9 (pv 9))) ?_
      exact ds_nil (by subst e_p_2; (try simp only [c_2, cond_true, cond_false, Bool.not_true, Bool.not_false, goM, goN]); (show Le _ _); repeat (first | exact Le.nil | refine Le.same ?_ | refine Le.drop ?_))
    · have q_c_2 := c_2
      try simp only [eqD_t, eqD_f, decide_eq_true_eq, decide_eq_false_iff_not, Bool.not_eq_true', Bool.not_eq_false', Bool.and_eq_true, Bool.or_eq_true, Bool.and_eq_false_iff, Bool.or_eq_false_iff, Bool.not_true, Bool.not_false, Bool.not_not, Decidable.not_not] at q_c_2
      exact ds_nil (by subst e_p_2; (try simp only [c_2, cond_true, cond_false, Bool.not_true, Bool.not_false, goM, goN]); (show Le _ _); repeat (first | exact Le.nil | refine Le.same ?_ | refine Le.drop ?_))
    exact ds_nil ⟨p_2, (by subst e_l_roads_here_1 e_p_1 e_l_cell_here_1 e_l_start_1 e_l_end_1 e_l_at_1 e_l_more_1 e_p_2; simp only [l_l_roads_1, cond_true, cond_false, Bool.not_true, Bool.not_false, goM, goN]; try rfl), (by repeat (first | exact Le.nil | refine Le.same ?_ | refine Le.drop ?_)), (by have hz := go_inv (v := p_2) (roads_turn (sc := l_script) (a := a_1) pre_0 hi_1) (by subst e_l_roads_here_1 e_p_1 e_l_cell_here_1 e_l_start_1 e_l_end_1 e_l_at_1 e_l_more_1 e_p_2; simp only [l_l_roads_1, cond_true, cond_false, Bool.not_true, Bool.not_false, goM, goN]; try rfl); exact hz)⟩
  · intro r o f_1 ho hr_
    exact r.elim
  intro s_2 f_1 hi_1
  exact ds_retD (de_v 3 (pv 3)) (.inl (by subst e_l_roads_here_1 e_p_1; first | (simp only [m_l_roads, f_1, cond_true, cond_false, Bool.not_true, Bool.not_false, goM, goN]; first | done | rfl) | (simp only [m_l_roads]; rw [f_1]; first | done | rfl) | (simp only [m_l_roads]; (try dsimp only at f_1); (try simp only [f_1, cond_true, cond_false, Bool.not_true, Bool.not_false, goM, goN]); first | done | rfl)))
theorem roads_ok {sc : List Int} {m : Int} {ws : List (T4 Int Int Fr Bool)} (hm : 2 ≤ m ∧ m ≤ 6) (hn : ws.length ≤ 3) (hw : ∀ w ∈ ws, (0 ≤ w.a ∧ w.a < m) ∧ (0 ≤ w.b ∧ w.b < m)) (hne : ∀ w ∈ ws, w.a ≠ w.b) : RgI m ws (m_l_roads sc m ws) := by
  unfold m_l_roads
  simp only
  obtain ⟨s, e, h⟩ := forG_inv (f := l_l_roads_1 sc m ws) (xs := rng 0 (14 : Int).toNat) (fun _ s => RgI m ws s) (fun i a s ha hi => roads_turn hm hi) (roads_0 (sc := sc) hm hn hw hne rfl rfl)
  rw [goN_nx e]
  exact h
def m_l_number (l_one : (Int × Int)) : PySem.Str := (bif (decide (l_one.2 = (1 : Int))) then (toString l_one.1 : PySem.Str) else (((toString l_one.1 : PySem.Str) ++ ("/" : PySem.Str)) ++ (toString l_one.2 : PySem.Str)))
def r_l_number (xs : List PyData) (r : Res) : Prop := ∃ (l_one : (Int × Int)), (FrS l_one) ∧ xs = [((eP PyData.int PyData.int) l_one)] ∧ r = .v (.str (m_l_number l_one))
abbrev N_l_number : List Str := ["_law_one"]
theorem sc_l_number : FnScope N_l_number ["_law_one"] (defScope s_l_number) := ⟨rfl, rfl, rfl, by decide +kernel, rfl, by decide +kernel, by decide +kernel⟩
theorem ok_l_number (F : Def K mg "_law_number" s_l_number ["_law_one"]) (T : Txt K mg A)  : Cal P w K mg base "_law_number" 1 r_l_number 1 := by
  refine cal_ok F sc_l_number rfl fun fa cdv AA outer ss HH EE X hX C hr xs r hl hR => ?_
  obtain ⟨l_one, pre_0, rfl, rfl⟩ := hR
  subst hX
  show DSs _ _ _ [.v ((eP PyData.int PyData.int) l_one)] _
  refine ds_ifr (dt_eqI (de_it (de_v 0 (pv 0)) de_int) de_int) (fun c_1 => ?_) (fun c_1 => ?_)
  · have q_c_1 := c_1
    try simp only [eqD_t, eqD_f, decide_eq_true_eq, decide_eq_false_iff_not, Bool.not_eq_true', Bool.not_eq_false', Bool.and_eq_true, Bool.or_eq_true, Bool.and_eq_false_iff, Bool.or_eq_false_iff, Bool.not_true, Bool.not_false, Bool.not_not, Decidable.not_not] at q_c_1
    exact ds_retD (de_strI (de_it (de_v 0 (pv 0)) de_int) (by first | exact sml_log pre_0.1 | exact sml_log pre_0.2) rfl T.b_str) (.inl (by first | (simp only [m_l_number, c_1, cond_true, cond_false, Bool.not_true, Bool.not_false, goM, goN]; first | done | rfl) | (simp only [m_l_number]; rw [c_1]; first | done | rfl) | (simp only [m_l_number]; (try dsimp only at c_1); (try simp only [c_1, cond_true, cond_false, Bool.not_true, Bool.not_false, goM, goN]); first | done | rfl)))
  have q_c_1 := c_1
  try simp only [eqD_t, eqD_f, decide_eq_true_eq, decide_eq_false_iff_not, Bool.not_eq_true', Bool.not_eq_false', Bool.and_eq_true, Bool.or_eq_true, Bool.and_eq_false_iff, Bool.or_eq_false_iff, Bool.not_true, Bool.not_false, Bool.not_not, Decidable.not_not] at q_c_1
  exact ds_retD (de_addS (de_addS (de_strI (de_it (de_v 0 (pv 0)) de_int) (by first | exact sml_log pre_0.1 | exact sml_log pre_0.2) rfl T.b_str) de_str (by have h1 := sml_len pre_0.1; have h2 := sml_len pre_0.2; have h3 : ("/" : PySem.Str).length = 1 := (by decide +kernel); rw [sizeLine_eq]; (try rw [len_app]); omega)) (de_strI (de_it (de_v 0 (pv 0)) de_int) (by first | exact sml_log pre_0.1 | exact sml_log pre_0.2) rfl T.b_str) (by have h1 := sml_len pre_0.1; have h2 := sml_len pre_0.2; have h3 : ("/" : PySem.Str).length = 1 := (by decide +kernel); rw [sizeLine_eq]; (try rw [len_app]); omega)) (.inl (by first | (simp only [m_l_number, c_1, cond_true, cond_false, Bool.not_true, Bool.not_false, goM, goN]; first | done | rfl) | (simp only [m_l_number]; rw [c_1]; first | done | rfl) | (simp only [m_l_number]; (try dsimp only at c_1); (try simp only [c_1, cond_true, cond_false, Bool.not_true, Bool.not_false, goM, goN]); first | done | rfl)))
theorem number_eq (one : Int × Int) : m_l_number one = m_fraction_text one := by
  unfold m_l_number m_fraction_text
  cases decide (one.2 = (1 : Int)) with
  | true => rfl
  | false =>
    rw [cond_false, cond_false]
    apply TL.ext_tl
    show TL.tl _ = TL.tl (((PySem.Str.empty ++ (toString one.1 : PySem.Str)) ++ ("/" : PySem.Str)) ++ (toString one.2 : PySem.Str))
    simp only [TL.tl_append]
    rfl
theorem ln_len {one : Int × Int} (h : FrS one) : (m_l_number one).length ≤ 41 := number_eq one ▸ ft_len h
theorem lw_1 {many : Int} (h : sml many) : (("places " : PySem.Str) ++ (toString many : PySem.Str)).length ≤ 300 := by
  have h1 := sml_len h
  have h3 : ("places " : PySem.Str).length = 7 := by decide +kernel
  rw [len_app]
  omega
theorem lw_r {r : T5 Int Int (Int × Int) (Int × Int) Bool} (h : RdS r) : (([(gx ([("road" : PySem.Str), ("lane" : PySem.Str)] : (List PySem.Str)) (if r.e = true then (1 : Int) else 0)), (toString r.a : PySem.Str), (toString r.b : PySem.Str), (m_l_number r.c), (m_l_number r.d)] : List PySem.Str).map (·.length)).sum + ([(gx ([("road" : PySem.Str), ("lane" : PySem.Str)] : (List PySem.Str)) (if r.e = true then (1 : Int) else 0)), (toString r.a : PySem.Str), (toString r.b : PySem.Str), (m_l_number r.c), (m_l_number r.d)] : List PySem.Str).length * (" " : PySem.Str).length ≤ 300 :=
  sum5 (head2 (by decide +kernel) (by decide +kernel) _) (Nat.le_trans (sml_len h.a) (by decide)) (Nat.le_trans (sml_len h.b) (by decide)) (ln_len h.c) (ln_len h.d) (by decide +kernel)
theorem lw_w {r : T4 Int Int (Int × Int) Bool} (h : WsS r) : (([(gx ([("wish" : PySem.Str), ("bus" : PySem.Str)] : (List PySem.Str)) (if r.d = true then (1 : Int) else 0)), (toString r.a : PySem.Str), (toString r.b : PySem.Str), (m_l_number r.c)] : List PySem.Str).map (·.length)).sum + ([(gx ([("wish" : PySem.Str), ("bus" : PySem.Str)] : (List PySem.Str)) (if r.d = true then (1 : Int) else 0)), (toString r.a : PySem.Str), (toString r.b : PySem.Str), (m_l_number r.c)] : List PySem.Str).length * (" " : PySem.Str).length ≤ 300 :=
  sum4 (head2 (by decide +kernel) (by decide +kernel) _) (Nat.le_trans (sml_len h.a) (by decide)) (Nat.le_trans (sml_len h.b) (by decide)) (ln_len h.c) (by decide +kernel)
def l_l_words_1  (s_1 : (List PySem.Str)) (a_1 : (T5 Int Int (Int × Int) (Int × Int) Bool)) : Go ((List PySem.Str)) Empty := (let l_words_here_1 := ([(gx ([("road" : PySem.Str), ("lane" : PySem.Str)] : (List PySem.Str)) (if a_1.e = true then (1 : Int) else 0)), (toString a_1.a : PySem.Str), (toString a_1.b : PySem.Str), (m_l_number a_1.c), (m_l_number a_1.d)] : (List PySem.Str)); (let l_parts_2 := (s_1 ++ [(joinS (" " : PySem.Str) l_words_here_1)]); (.nx l_parts_2)))
def l_l_words_2  (s_3 : (List PySem.Str)) (a_2 : (T4 Int Int (Int × Int) Bool)) : Go ((List PySem.Str)) Empty := (let l_parts_3 := (s_3 ++ [(joinS (" " : PySem.Str) ([(gx ([("wish" : PySem.Str), ("bus" : PySem.Str)] : (List PySem.Str)) (if a_2.d = true then (1 : Int) else 0)), (toString a_2.a : PySem.Str), (toString a_2.b : PySem.Str), (m_l_number a_2.c)] : (List PySem.Str)))]); (.nx l_parts_3))
def m_l_words (l_many_here : Int) (l_roads_here : (List (T5 Int Int (Int × Int) (Int × Int) Bool))) (l_wishes_here : (List (T4 Int Int (Int × Int) Bool))) : PySem.Str := (let l_parts_1 := ([(("places " : PySem.Str) ++ (toString l_many_here : PySem.Str))] : (List PySem.Str)); (goN (forG l_l_words_1 l_roads_here l_parts_1) (fun s_2 => (goN (forG l_l_words_2 l_wishes_here s_2) (fun s_4 => (joinS ("; " : PySem.Str) s_4))))))
def r_l_words (xs : List PyData) (r : Res) : Prop := ∃ (l_many_here : Int) (l_roads_here : (List (T5 Int Int (Int × Int) (Int × Int) Bool))) (l_wishes_here : (List (T4 Int Int (Int × Int) Bool))), (NtS l_many_here l_roads_here l_wishes_here) ∧ xs = [(.int l_many_here), ((eL (eT5 PyData.int PyData.int (eP PyData.int PyData.int) (eP PyData.int PyData.int) PyData.bool)) l_roads_here), ((eL (eT4 PyData.int PyData.int (eP PyData.int PyData.int) PyData.bool)) l_wishes_here)] ∧ r = .v (.str (m_l_words l_many_here l_roads_here l_wishes_here))
abbrev N_l_words : List Str := ["_law_many_here", "_law_roads_here", "_law_wishes_here", "_law_parts", "_law_start", "_law_end", "_law_base", "_law_slope", "_law_lane", "_law_words_here", "_law_amount"]
theorem sc_l_words : FnScope N_l_words ["_law_many_here", "_law_roads_here", "_law_wishes_here"] (defScope s_l_words) := ⟨rfl, rfl, rfl, by decide +kernel, rfl, by decide +kernel, by decide +kernel⟩
theorem ok_l_words (F : Def K mg "_law_words" s_l_words ["_law_many_here", "_law_roads_here", "_law_wishes_here"]) (T : Txt K mg A) (c_l_number : Cal P w K mg base "_law_number" 1 r_l_number 1) : Cal P w K mg base "_law_words" 3 r_l_words 2 := by
  refine cal_ok F sc_l_words rfl fun fa cdv AA outer ss HH EE X hX C hr xs r hl hR => ?_
  obtain ⟨l_many_here, l_roads_here, l_wishes_here, pre_0, rfl, rfl⟩ := hR
  subst hX
  show DSs _ _ _ [.v (.int l_many_here), .v ((eL (eT5 PyData.int PyData.int (eP PyData.int PyData.int) (eP PyData.int PyData.int) PyData.bool)) l_roads_here), .v ((eL (eT4 PyData.int PyData.int (eP PyData.int PyData.int) PyData.bool)) l_wishes_here), .no, .no, .no, .no, .no, .no, .no, .no] _
  have hrl := pre_0.rl
  have hwl := pre_0.wl
  obtain ⟨l_parts_1, e_l_parts_1⟩ : ∃ z : (List PySem.Str), z = ([(("places " : PySem.Str) ++ (toString l_many_here : PySem.Str))] : (List PySem.Str)) := ⟨_, rfl⟩
  refine ds_then (E' := [.v (.int l_many_here), .v ((eL (eT5 PyData.int PyData.int (eP PyData.int PyData.int) (eP PyData.int PyData.int) PyData.bool)) l_roads_here), .v ((eL (eT4 PyData.int PyData.int (eP PyData.int PyData.int) PyData.bool)) l_wishes_here), .o (oL PyData.str l_parts_1), .no, .no, .no, .no, .no, .no, .no]) (ds_setN (t := oL PyData.str l_parts_1) (ln 3 sc_l_words.nd) (dnC (by subst e_l_parts_1; rfl) (dn_lst (da_cons (de_addS de_str (de_strI (de_v 0 (pv 0)) (by first | exact sml_log pre_0.n | exact sml_log hrr.a | exact sml_log hrr.b) rfl T.b_str) (by have h1 := sml_len pre_0.n; have h3 : ("places " : PySem.Str).length = 7 := (by decide +kernel); rw [sizeLine_eq]; omega)) da_nil)))) ?_
  refine ds_forG (items := l_roads_here) (ea := (eT5 PyData.int PyData.int (eP PyData.int PyData.int) (eP PyData.int PyData.int) PyData.bool)) (fun (s_1 : (List PySem.Str)) => [.v (.int l_many_here), .v ((eL (eT5 PyData.int PyData.int (eP PyData.int PyData.int) (eP PyData.int PyData.int) PyData.bool)) l_roads_here), .v ((eL (eT4 PyData.int PyData.int (eP PyData.int PyData.int) PyData.bool)) l_wishes_here), .o (oL PyData.str s_1), .no, .no, .no, .no, .no, .no, .no]) l_l_words_1 l_parts_1 (fun (i_1 : Nat) (s_1 : (List PySem.Str)) => PtS s_1 (1 + (i_1 : Int))) (fun (s_1 : (List PySem.Str)) => PtS s_1 (1 + ((l_roads_here).length : Int))) (fun (_ : Empty) _ => False) C (di_list (de_v 1 (pv 1))) (tg_tup rfl (tgs_cons (tg_name (ln 4 sc_l_words.nd)) (tgs_cons (tg_name (ln 5 sc_l_words.nd)) (tgs_cons (tg_name (ln 6 sc_l_words.nd)) (tgs_cons (tg_name (ln 7 sc_l_words.nd)) (tgs_cons (tg_name (ln 8 sc_l_words.nd)) tgs_nil))))) 5 (fcons_len (fcons_len (fcons_len (fcons_len (fcons_len fnil_len)))))) (by repeat (first | exact Le.nil | refine Le.same ?_ | refine Le.drop ?_)) (by subst e_l_parts_1; exact ptS_1 (lw_1 pre_0.n)) ?_ (fun _ h => h) ?_ ?_
  · intro i_1 a_1 s_1 ha_1 hi_1
    refine ⟨[.v (.int l_many_here), .v ((eL (eT5 PyData.int PyData.int (eP PyData.int PyData.int) (eP PyData.int PyData.int) PyData.bool)) l_roads_here), .v ((eL (eT4 PyData.int PyData.int (eP PyData.int PyData.int) PyData.bool)) l_wishes_here), .o (oL PyData.str s_1), .v (.int a_1.a), .v (.int a_1.b), .v ((eP PyData.int PyData.int) a_1.c), .v ((eP PyData.int PyData.int) a_1.d), .v (.bool a_1.e), .no, .no], rfl, ?_⟩
    have hil := get_lt ha_1
    have hrr := pre_0.r _ (List.mem_of_getElem? ha_1)
    obtain ⟨l_words_here_1, e_l_words_here_1⟩ : ∃ z : (List PySem.Str), z = ([(gx ([("road" : PySem.Str), ("lane" : PySem.Str)] : (List PySem.Str)) (if a_1.e = true then (1 : Int) else 0)), (toString a_1.a : PySem.Str), (toString a_1.b : PySem.Str), (m_l_number a_1.c), (m_l_number a_1.d)] : (List PySem.Str)) := ⟨_, rfl⟩
    refine ds_then (E' := [.v (.int l_many_here), .v ((eL (eT5 PyData.int PyData.int (eP PyData.int PyData.int) (eP PyData.int PyData.int) PyData.bool)) l_roads_here), .v ((eL (eT4 PyData.int PyData.int (eP PyData.int PyData.int) PyData.bool)) l_wishes_here), .o (oL PyData.str s_1), .v (.int a_1.a), .v (.int a_1.b), .v ((eP PyData.int PyData.int) a_1.c), .v ((eP PyData.int PyData.int) a_1.d), .v (.bool a_1.e), .v ((eL PyData.str) l_words_here_1), .no]) (ds_set (x := ((eL PyData.str) l_words_here_1)) (ln 9 sc_l_words.nd) (deC (by subst e_l_words_here_1; rfl) (DN.toL (f := PyData.str) (xs := ([(gx ([("road" : PySem.Str), ("lane" : PySem.Str)] : (List PySem.Str)) (if a_1.e = true then (1 : Int) else 0)), (toString a_1.a : PySem.Str), (toString a_1.b : PySem.Str), (m_l_number a_1.c), (m_l_number a_1.d)] : (List PySem.Str))) (dn_lst (da_cons (de_ixL (DN.toL (f := PyData.str) (xs := ([("road" : PySem.Str), ("lane" : PySem.Str)] : (List PySem.Str))) (dn_lst (da_cons de_str (da_cons de_str da_nil)))) (de_intB (de_v 8 (pv 8)) rfl T.b_int) (by first | exact ⟨by omega, by omega⟩ | exact inR_mod (by omega) | (unfold inR; simp only [List.length_map, List.length_append, List.length_cons, List.length_nil, List.length_replicate, rng_len, sx_len]; omega))) (da_cons (de_strI (de_v 4 (pv 4)) (by first | exact sml_log pre_0.n | exact sml_log hrr.a | exact sml_log hrr.b) rfl T.b_str) (da_cons (de_strI (de_v 5 (pv 5)) (by first | exact sml_log pre_0.n | exact sml_log hrr.a | exact sml_log hrr.b) rfl T.b_str) (da_cons (de_call (f := "_law_number") (c_l_number.at hr) rfl (da_cons (de_v 6 (pv 6)) da_nil) ⟨a_1.c, (by first | omega | assumption | exact hrr.c | exact hrr.d | decide), rfl, rfl⟩) (da_cons (de_call (f := "_law_number") (c_l_number.at hr) rfl (da_cons (de_v 7 (pv 7)) da_nil) ⟨a_1.d, (by first | omega | assumption | exact hrr.c | exact hrr.d | decide), rfl, rfl⟩) da_nil))))))))) ?_
    obtain ⟨l_parts_2, e_l_parts_2⟩ : ∃ z : (List PySem.Str), z = (s_1 ++ [(joinS (" " : PySem.Str) l_words_here_1)]) := ⟨_, rfl⟩
    refine ds_then (E' := [.v (.int l_many_here), .v ((eL (eT5 PyData.int PyData.int (eP PyData.int PyData.int) (eP PyData.int PyData.int) PyData.bool)) l_roads_here), .v ((eL (eT4 PyData.int PyData.int (eP PyData.int PyData.int) PyData.bool)) l_wishes_here), .o (oL PyData.str l_parts_2), .v (.int a_1.a), .v (.int a_1.b), .v ((eP PyData.int PyData.int) a_1.c), .v ((eP PyData.int PyData.int) a_1.d), .v (.bool a_1.e), .v ((eL PyData.str) l_words_here_1), .no]) (ds_appendL (f := PyData.str) (v := (joinS (" " : PySem.Str) l_words_here_1)) (xs := s_1) (fun _ => pv 3) (de_join (ys := l_words_here_1) de_str (de_v 9 (pv 9)) (by first | (rw [e_l_words_here_1]; exact Nat.le_trans (lw_r hrr) (by decide)) | exact Nat.le_trans (lw_w hrr) (by decide) | exact ptS_join hi_2 (by omega) (by decide +kernel))) rfl (by rw [sizeLine_eq]; (first | (have h8 := hi_2.2; omega) | (have h8 := hi_1.2; omega))) (by subst e_l_parts_2; rfl)) ?_
    exact ds_nil ⟨l_parts_2, (by subst e_l_parts_1 e_l_words_here_1 e_l_parts_2; simp only [l_l_words_1, cond_true, cond_false, Bool.not_true, Bool.not_false, goM, goN]; try rfl), (by repeat (first | exact Le.nil | refine Le.same ?_ | refine Le.drop ?_)), (by (subst e_l_parts_2; subst e_l_words_here_1; have h9 := ptS_app hi_1 (Nat.le_trans (join_len _ _) (lw_r hrr)); rwa [show (1 : Int) + ((i_1 + 1 : Nat) : Int) = 1 + (i_1 : Int) + 1 by omega]))⟩
  · intro r o f_1 ho hr_
    exact r.elim
  intro s_2 f_1 hi_1
  have hil := hi_1
  refine ds_forG (items := l_wishes_here) (ea := (eT4 PyData.int PyData.int (eP PyData.int PyData.int) PyData.bool)) (fun (s_3 : (List PySem.Str)) => [.v (.int l_many_here), .v ((eL (eT5 PyData.int PyData.int (eP PyData.int PyData.int) (eP PyData.int PyData.int) PyData.bool)) l_roads_here), .v ((eL (eT4 PyData.int PyData.int (eP PyData.int PyData.int) PyData.bool)) l_wishes_here), .o (oL PyData.str s_3), .no, .no, .no, .no, .no, .no, .no]) l_l_words_2 s_2 (fun (i_2 : Nat) (s_3 : (List PySem.Str)) => PtS s_3 (2000 + (i_2 : Int))) (fun (s_3 : (List PySem.Str)) => PtS s_3 (2000 + ((l_wishes_here).length : Int))) (fun (_ : Empty) _ => False) C (di_list (de_v 2 (pv 2))) (tg_tup rfl (tgs_cons (tg_name (ln 4 sc_l_words.nd)) (tgs_cons (tg_name (ln 5 sc_l_words.nd)) (tgs_cons (tg_name (ln 10 sc_l_words.nd)) (tgs_cons (tg_name (ln 8 sc_l_words.nd)) tgs_nil)))) 4 (fcons_len (fcons_len (fcons_len (fcons_len fnil_len))))) (by repeat (first | exact Le.nil | refine Le.same ?_ | refine Le.drop ?_)) (by exact ⟨hi_1.1, by have h8 := hi_1.2; omega⟩) ?_ (fun _ h => h) ?_ ?_
  · intro i_2 a_2 s_3 ha_2 hi_2
    refine ⟨[.v (.int l_many_here), .v ((eL (eT5 PyData.int PyData.int (eP PyData.int PyData.int) (eP PyData.int PyData.int) PyData.bool)) l_roads_here), .v ((eL (eT4 PyData.int PyData.int (eP PyData.int PyData.int) PyData.bool)) l_wishes_here), .o (oL PyData.str s_3), .v (.int a_2.a), .v (.int a_2.b), .no, .no, .v (.bool a_2.d), .no, .v ((eP PyData.int PyData.int) a_2.c)], rfl, ?_⟩
    have hil := get_lt ha_2
    have hrr := pre_0.w _ (List.mem_of_getElem? ha_2)
    obtain ⟨l_parts_3, e_l_parts_3⟩ : ∃ z : (List PySem.Str), z = (s_3 ++ [(joinS (" " : PySem.Str) ([(gx ([("wish" : PySem.Str), ("bus" : PySem.Str)] : (List PySem.Str)) (if a_2.d = true then (1 : Int) else 0)), (toString a_2.a : PySem.Str), (toString a_2.b : PySem.Str), (m_l_number a_2.c)] : (List PySem.Str)))]) := ⟨_, rfl⟩
    refine ds_then (E' := [.v (.int l_many_here), .v ((eL (eT5 PyData.int PyData.int (eP PyData.int PyData.int) (eP PyData.int PyData.int) PyData.bool)) l_roads_here), .v ((eL (eT4 PyData.int PyData.int (eP PyData.int PyData.int) PyData.bool)) l_wishes_here), .o (oL PyData.str l_parts_3), .v (.int a_2.a), .v (.int a_2.b), .no, .no, .v (.bool a_2.d), .no, .v ((eP PyData.int PyData.int) a_2.c)]) (ds_appendL (f := PyData.str) (v := (joinS (" " : PySem.Str) ([(gx ([("wish" : PySem.Str), ("bus" : PySem.Str)] : (List PySem.Str)) (if a_2.d = true then (1 : Int) else 0)), (toString a_2.a : PySem.Str), (toString a_2.b : PySem.Str), (m_l_number a_2.c)] : (List PySem.Str)))) (xs := s_3) (fun _ => pv 3) (de_join (ys := ([(gx ([("wish" : PySem.Str), ("bus" : PySem.Str)] : (List PySem.Str)) (if a_2.d = true then (1 : Int) else 0)), (toString a_2.a : PySem.Str), (toString a_2.b : PySem.Str), (m_l_number a_2.c)] : (List PySem.Str))) de_str (DN.toL (f := PyData.str) (xs := ([(gx ([("wish" : PySem.Str), ("bus" : PySem.Str)] : (List PySem.Str)) (if a_2.d = true then (1 : Int) else 0)), (toString a_2.a : PySem.Str), (toString a_2.b : PySem.Str), (m_l_number a_2.c)] : (List PySem.Str))) (dn_lst (da_cons (de_ixL (DN.toL (f := PyData.str) (xs := ([("wish" : PySem.Str), ("bus" : PySem.Str)] : (List PySem.Str))) (dn_lst (da_cons de_str (da_cons de_str da_nil)))) (de_intB (de_v 8 (pv 8)) rfl T.b_int) (by first | exact ⟨by omega, by omega⟩ | exact inR_mod (by omega) | (unfold inR; simp only [List.length_map, List.length_append, List.length_cons, List.length_nil, List.length_replicate, rng_len, sx_len]; omega))) (da_cons (de_strI (de_v 4 (pv 4)) (by first | exact sml_log pre_0.n | exact sml_log hrr.a | exact sml_log hrr.b) rfl T.b_str) (da_cons (de_strI (de_v 5 (pv 5)) (by first | exact sml_log pre_0.n | exact sml_log hrr.a | exact sml_log hrr.b) rfl T.b_str) (da_cons (de_call (f := "_law_number") (c_l_number.at hr) rfl (da_cons (de_v 10 (pv 10)) da_nil) ⟨a_2.c, (by first | omega | assumption | exact hrr.c | exact hrr.d | decide), rfl, rfl⟩) da_nil)))))) (by first | (rw [e_l_words_here_1]; exact Nat.le_trans (lw_r hrr) (by decide)) | exact Nat.le_trans (lw_w hrr) (by decide) | exact ptS_join hi_2 (by omega) (by decide +kernel))) rfl (by rw [sizeLine_eq]; (first | (have h8 := hi_2.2; omega) | (have h8 := hi_1.2; omega))) (by subst e_l_parts_3; rfl)) ?_
    exact ds_nil ⟨l_parts_3, (by subst e_l_parts_1 e_l_parts_3; first | (simp only [l_l_words_2, f_1, cond_true, cond_false, Bool.not_true, Bool.not_false, goM, goN]; first | done | rfl) | (simp only [l_l_words_2]; rw [f_1]; first | done | rfl) | (simp only [l_l_words_2]; (try dsimp only at f_1); (try simp only [f_1, cond_true, cond_false, Bool.not_true, Bool.not_false, goM, goN]); first | done | rfl)), (by repeat (first | exact Le.nil | refine Le.same ?_ | refine Le.drop ?_)), (by (subst e_l_parts_3; have h9 := ptS_app hi_2 (Nat.le_trans (join_len _ _) (lw_w hrr)); rwa [show (2000 : Int) + ((i_2 + 1 : Nat) : Int) = 2000 + (i_2 : Int) + 1 by omega]))⟩
  · intro r o f_2 ho hr_
    exact r.elim
  intro s_4 f_2 hi_2
  refine ds_freezeL 3 (E' := [.v (.int l_many_here), .v ((eL (eT5 PyData.int PyData.int (eP PyData.int PyData.int) (eP PyData.int PyData.int) PyData.bool)) l_roads_here), .v ((eL (eT4 PyData.int PyData.int (eP PyData.int PyData.int) PyData.bool)) l_wishes_here), .v ((eL PyData.str) s_4), .no, .no, .no, .no, .no, .no, .no]) rfl rfl ?_
  exact ds_retD (de_join (ys := s_4) de_str (de_v 3 (pv 3)) (by first | (rw [e_l_words_here_1]; exact Nat.le_trans (lw_r hrr) (by decide)) | exact Nat.le_trans (lw_w hrr) (by decide) | exact ptS_join hi_2 (by omega) (by decide +kernel))) (.inl (by subst e_l_parts_1; first | (simp only [m_l_words, f_1, f_2, cond_true, cond_false, Bool.not_true, Bool.not_false, goM, goN]; first | done | rfl) | (simp only [m_l_words]; rw [f_1, f_2]; first | done | rfl) | (simp only [m_l_words]; (try dsimp only at f_1); (try dsimp only at f_2); (try simp only [f_1, cond_true, cond_false, Bool.not_true, Bool.not_false, goM, goN]); (try simp only [f_2, cond_true, cond_false, Bool.not_true, Bool.not_false, goM, goN]); first | done | rfl)))
def mr_l_alike : Nat → PySem.PyData → PySem.PyData → Bool
  | 0, _, _ => default
  | n + 1, l_found, l_due => (bif (isSeq l_due) then (bif ((!decide ((isList l_due) = (isList l_found))) || (!(isSeq l_found))) then false else (bif (!decide ((pyLen l_found) = (pyLen l_due))) then false else (decide (((((rng 0 (pyLen l_due).toNat).filter (fun (a_1 : Int) => (!(mr_l_alike n (gx (elems l_found) a_1) (gx (elems l_due) a_1))))).map (fun (a_1 : Int) => a_1)).length : Int) = (0 : Int))))) else (bif (isBool l_due) then ((isBool l_found) && (PyData.eqv l_found l_due)) else ((m_l_whole l_found) && (PyData.eqv l_found l_due))))
def m_l_alike := mr_l_alike 8
def nice : Nat → PyData → Bool
  | 0, _ => false
  | n + 1, .list xs => decide (xs.length ≤ 1000) && xs.all (nice n)
  | n + 1, .tuple xs => decide (xs.length ≤ 1000) && xs.all (nice n)
  | _ + 1, .bool _ => true
  | _ + 1, .int _ => true
  | _ + 1, _ => false
theorem nice_len {n : Nat} {x : PyData} (h : nice n x = true) : 0 ≤ D.pyLen x ∧ D.pyLen x ≤ 1000 := by
  refine ⟨by unfold D.pyLen; omega, ?_⟩
  cases n with
  | zero => exact Bool.noConfusion h
  | succ n =>
    cases x with
    | list xs =>
      have h' : (decide (xs.length ≤ 1000) && xs.all (nice n)) = true := h
      rw [Bool.and_eq_true, decide_eq_true_eq] at h'
      show (xs.length : Int) ≤ 1000
      omega
    | tuple xs =>
      have h' : (decide (xs.length ≤ 1000) && xs.all (nice n)) = true := h
      rw [Bool.and_eq_true, decide_eq_true_eq] at h'
      show (xs.length : Int) ≤ 1000
      omega
    | _ => show ((0 : Nat) : Int) ≤ 1000; omega
theorem nice_mem {n : Nat} {x y : PyData} (h : nice (n + 1) x = true) (hy : y ∈ elems x) : nice n y = true := by
  cases x with
  | list xs =>
    have h' : (decide (xs.length ≤ 1000) && xs.all (nice n)) = true := h
    rw [Bool.and_eq_true, List.all_eq_true] at h'
    exact h'.2 y hy
  | tuple xs =>
    have h' : (decide (xs.length ≤ 1000) && xs.all (nice n)) = true := h
    rw [Bool.and_eq_true, List.all_eq_true] at h'
    exact h'.2 y hy
  | _ => cases hy
theorem nice_sub {n : Nat} {x : PyData} {i : Int} (h : nice (n + 1) x = true) (_ : True) (h0 : 0 ≤ i) (h1 : i < D.pyLen x) : nice n (gx (elems x) i) = true := nice_mem h (gx_mem (inR_py h0 h1))
theorem bool_nd {x : PyData} (h : isBool x = true) : noDict x = true := by cases x <;> first | rfl | exact Bool.noConfusion h
theorem bool_sh {x : PyData} (h : isBool x = true) : SeqAt.shaped x = true := by cases x <;> first | rfl | exact Bool.noConfusion h
theorem whole_nd {x : PyData} (h : m_l_whole x = true) : noDict x = true := by cases x <;> first | rfl | exact Bool.noConfusion h
theorem whole_sh {x : PyData} (h : m_l_whole x = true) : SeqAt.shaped x = true := by cases x <;> first | rfl | exact Bool.noConfusion h
theorem leaf_nd {n : Nat} {x : PyData} (h : nice n x = true) (h1 : isSeq x = false) : noDict x = true := by
  cases n with
  | zero => exact Bool.noConfusion h
  | succ n => cases x <;> first | rfl | exact Bool.noConfusion h1 | exact Bool.noConfusion h
theorem leaf_sh {n : Nat} {x : PyData} (h : nice n x = true) (h1 : isSeq x = false) : SeqAt.shaped x = true := by
  cases n with
  | zero => exact Bool.noConfusion h
  | succ n => cases x <;> first | rfl | exact Bool.noConfusion h1 | exact Bool.noConfusion h
def rr_l_alike (n : Nat) (xs : List PyData) (r : Res) : Prop := ∃ (l_found : PySem.PyData) (l_due : PySem.PyData), (nice n l_due = true) ∧ xs = [l_found, l_due] ∧ r = .v (.bool (mr_l_alike n l_found l_due))
def r_l_alike (xs : List PyData) (r : Res) : Prop := ∃ (l_found : PySem.PyData) (l_due : PySem.PyData), (nice 8 l_due = true) ∧ xs = [l_found, l_due] ∧ r = .v (.bool (m_l_alike l_found l_due))
abbrev N_l_alike : List Str := ["_law_found", "_law_due", "_law_k"]
theorem sc_l_alike : FnScope N_l_alike ["_law_found", "_law_due"] (defScope s_l_alike) := ⟨rfl, rfl, rfl, by decide +kernel, rfl, by decide +kernel, by decide +kernel⟩
theorem ok0_l_alike (F : Def K mg "_law_alike" s_l_alike ["_law_found", "_law_due"]) (hf : ∀ xs r, ¬ rr_l_alike 0 xs r) : Cal P w K mg base "_law_alike" 2 (rr_l_alike 0) 2 := cal_ok (k := 1) F sc_l_alike rfl fun fa cdv AA outer ss HH EE X hX C hr xs r hl hR => (hf xs r hR).elim
theorem oks_l_alike {n : Nat} (F : Def K mg "_law_alike" s_l_alike ["_law_found", "_law_due"]) (T : Txt K mg A) (c_l_whole : Cal P w K mg base "_law_whole" 1 r_l_whole 1) (c_l_alike : Cal P w K mg base "_law_alike" 2 (rr_l_alike n) (n + 2)) : Cal P w K mg base "_law_alike" 2 (rr_l_alike (n + 1)) (n + 2 + 1) := by
  refine cal_ok F sc_l_alike rfl fun fa cdv AA outer ss HH EE X hX C hr xs r hl hR => ?_
  obtain ⟨l_found, l_due, pre_0, rfl, rfl⟩ := hR
  subst hX
  show DSs _ _ _ [.v l_found, .v l_due, .no] _
  have hpl := nice_len pre_0
  refine ds_ifr (dt_val (de_isSeq (de_v 1 (pv 1)) rfl T.b_isinstance rfl T.b_tuple rfl T.b_list)) (fun c_1 => ?_) (fun c_1 => ?_)
  · have q_c_1 := c_1
    try simp only [eqD_t, eqD_f, decide_eq_true_eq, decide_eq_false_iff_not, Bool.not_eq_true', Bool.not_eq_false', Bool.and_eq_true, Bool.or_eq_true, Bool.and_eq_false_iff, Bool.or_eq_false_iff, Bool.not_true, Bool.not_false, Bool.not_not, Decidable.not_not] at q_c_1
    refine ds_ifr (DW.toT (dw_or (dt_neB (de_isi (kit_list l_due) (de_v 1 (pv 1)) rfl T.b_isinstance rfl T.b_list) (de_isi (kit_list l_found) (de_v 0 (pv 0)) rfl T.b_isinstance rfl T.b_list)) (fun _ => (dw_or1 (dt_not (dt_val (de_isSeq (de_v 0 (pv 0)) rfl T.b_isinstance rfl T.b_tuple rfl T.b_list))))))) (fun c_2 => ?_) (fun c_2 => ?_)
    · have q_c_2 := c_2
      try simp only [eqD_t, eqD_f, decide_eq_true_eq, decide_eq_false_iff_not, Bool.not_eq_true', Bool.not_eq_false', Bool.and_eq_true, Bool.or_eq_true, Bool.and_eq_false_iff, Bool.or_eq_false_iff, Bool.not_true, Bool.not_false, Bool.not_not, Decidable.not_not] at q_c_2
      exact ds_retD de_bl (.inl (by first | (simp only [mr_l_alike, c_1, c_2, cond_true, cond_false, Bool.not_true, Bool.not_false, goM, goN]; first | done | rfl) | (simp only [mr_l_alike]; rw [c_1, c_2]; first | done | rfl) | (simp only [mr_l_alike]; (try dsimp only at c_1); (try dsimp only at c_2); (try simp only [c_1, cond_true, cond_false, Bool.not_true, Bool.not_false, goM, goN]); (try simp only [c_2, cond_true, cond_false, Bool.not_true, Bool.not_false, goM, goN]); first | done | rfl)))
    have q_c_2 := c_2
    try simp only [eqD_t, eqD_f, decide_eq_true_eq, decide_eq_false_iff_not, Bool.not_eq_true', Bool.not_eq_false', Bool.and_eq_true, Bool.or_eq_true, Bool.and_eq_false_iff, Bool.or_eq_false_iff, Bool.not_true, Bool.not_false, Bool.not_not, Decidable.not_not] at q_c_2
    refine ds_ifr (dt_neI (de_lenA (de_v 0 (pv 0)) (by first | exact .inl (by first | assumption | grind) | exact .inr (by first | assumption | grind) | exact seq_or (by first | assumption | grind)) rfl T.b_len) (de_lenA (de_v 1 (pv 1)) (by first | exact .inl (by first | assumption | grind) | exact .inr (by first | assumption | grind) | exact seq_or (by first | assumption | grind)) rfl T.b_len)) (fun c_3 => ?_) (fun c_3 => ?_)
    · have q_c_3 := c_3
      try simp only [eqD_t, eqD_f, decide_eq_true_eq, decide_eq_false_iff_not, Bool.not_eq_true', Bool.not_eq_false', Bool.and_eq_true, Bool.or_eq_true, Bool.and_eq_false_iff, Bool.or_eq_false_iff, Bool.not_true, Bool.not_false, Bool.not_not, Decidable.not_not] at q_c_3
      exact ds_retD de_bl (.inl (by first | (simp only [mr_l_alike, c_1, c_2, c_3, cond_true, cond_false, Bool.not_true, Bool.not_false, goM, goN]; first | done | rfl) | (simp only [mr_l_alike]; rw [c_1, c_2, c_3]; first | done | rfl) | (simp only [mr_l_alike]; (try dsimp only at c_1); (try dsimp only at c_2); (try dsimp only at c_3); (try simp only [c_1, cond_true, cond_false, Bool.not_true, Bool.not_false, goM, goN]); (try simp only [c_2, cond_true, cond_false, Bool.not_true, Bool.not_false, goM, goN]); (try simp only [c_3, cond_true, cond_false, Bool.not_true, Bool.not_false, goM, goN]); first | done | rfl)))
    have q_c_3 := c_3
    try simp only [eqD_t, eqD_f, decide_eq_true_eq, decide_eq_false_iff_not, Bool.not_eq_true', Bool.not_eq_false', Bool.and_eq_true, Bool.or_eq_true, Bool.and_eq_false_iff, Bool.or_eq_false_iff, Bool.not_true, Bool.not_false, Bool.not_not, Decidable.not_not] at q_c_3
    exact ds_retD (de_eqI (de_lenL (DN.toL (f := PyData.int) (xs := (((rng 0 (pyLen l_due).toNat).filter (fun (a_1 : Int) => (!(mr_l_alike n (gx (elems l_found) a_1) (gx (elems l_due) a_1))))).map (fun (a_1 : Int) => a_1))) (dn_lcIf (ea := PyData.int) (eb := PyData.int) (items := (rng 0 (pyLen l_due).toNat)) (fun (a_1 : Int) => (!(mr_l_alike n (gx (elems l_found) a_1) (gx (elems l_due) a_1)))) (fun (a_1 : Int) => a_1) rfl sc_l_alike.nd (di_range1L (de_lenA (de_v 1 (pv 1)) (by first | exact .inl (by first | assumption | grind) | exact .inr (by first | assumption | grind) | exact seq_or (by first | assumption | grind)) rfl T.b_len) ⟨by omega, by omega⟩ rfl T.b_range) (blkOk_by (N := N_l_alike) (sc := defScope s_l_alike) (own := [("_law_k", 2)]) (by decide +kernel)) (fun _ _ _ _ _ => (tg_name (ln 2 sc_l_alike.nd))) (by rw [sizeLine_eq]; (rw [rng_len]; omega)) (fun a_1 h_a_1 => ⟨[.v l_found, .v l_due, .v (.int a_1)], rfl, fun _ _ _ _ _ => ⟨(dt_not (dt_val (de_call (f := "_law_alike") (c_l_alike.at hr (ble_self _)) rfl (da_cons (de_ixA (de_v 0 (pv 0)) (de_v 2 (pv 2)) (by first | exact .inl (by first | assumption | grind) | exact .inr (by first | assumption | grind) | exact seq_or (by first | assumption | grind)) (by (have hq := rng_mem h_a_1; exact inR_py (by omega) (by omega)))) (da_cons (de_ixA (de_v 1 (pv 1)) (de_v 2 (pv 2)) (by first | exact .inl (by first | assumption | grind) | exact .inr (by first | assumption | grind) | exact seq_or (by first | assumption | grind)) (by (have hq := rng_mem h_a_1; exact inR_py (by omega) (by omega)))) da_nil)) ⟨(gx (elems l_found) a_1), (gx (elems l_due) a_1), (by first | omega | assumption | exact nice_sub pre_0 (by grind) (by have hq := rng_mem h_a_1; omega) (by have hq := rng_mem h_a_1; omega) | decide), rfl, rfl⟩))), fun _ => (de_v 2 (pv 2))⟩⟩))) rfl T.b_len) de_int) (.inl (by first | (simp only [mr_l_alike, c_1, c_2, c_3, cond_true, cond_false, Bool.not_true, Bool.not_false, goM, goN]; first | done | rfl) | (simp only [mr_l_alike]; rw [c_1, c_2, c_3]; first | done | rfl) | (simp only [mr_l_alike]; (try dsimp only at c_1); (try dsimp only at c_2); (try dsimp only at c_3); (try simp only [c_1, cond_true, cond_false, Bool.not_true, Bool.not_false, goM, goN]); (try simp only [c_2, cond_true, cond_false, Bool.not_true, Bool.not_false, goM, goN]); (try simp only [c_3, cond_true, cond_false, Bool.not_true, Bool.not_false, goM, goN]); first | done | rfl)))
  have q_c_1 := c_1
  try simp only [eqD_t, eqD_f, decide_eq_true_eq, decide_eq_false_iff_not, Bool.not_eq_true', Bool.not_eq_false', Bool.and_eq_true, Bool.or_eq_true, Bool.and_eq_false_iff, Bool.or_eq_false_iff, Bool.not_true, Bool.not_false, Bool.not_not, Decidable.not_not] at q_c_1
  refine ds_ifr (dt_val (de_isi (kit_bool l_due) (de_v 1 (pv 1)) rfl T.b_isinstance rfl T.b_bool)) (fun c_4 => ?_) (fun c_4 => ?_)
  · have q_c_4 := c_4
    try simp only [eqD_t, eqD_f, decide_eq_true_eq, decide_eq_false_iff_not, Bool.not_eq_true', Bool.not_eq_false', Bool.and_eq_true, Bool.or_eq_true, Bool.and_eq_false_iff, Bool.or_eq_false_iff, Bool.not_true, Bool.not_false, Bool.not_not, Decidable.not_not] at q_c_4
    exact ds_retD (de_and (de_isi (kit_bool l_found) (de_v 0 (pv 0)) rfl T.b_isinstance rfl T.b_bool) (fun h_1 => by have q := h_1; (try simp only [eqD_t, eqD_f, decide_eq_true_eq, decide_eq_false_iff_not, Bool.not_eq_true', Bool.not_eq_false', Bool.and_eq_true, Bool.or_eq_true, Bool.and_eq_false_iff, Bool.or_eq_false_iff, Bool.not_true, Bool.not_false, Bool.not_not, Decidable.not_not] at q); exact (de_one (de_eqD hr.units (de_v 0 (pv 0)) (de_v 1 (pv 1)) (by first | exact bool_nd (by assumption) | exact whole_nd (by assumption)) (by first | exact bool_nd (by assumption) | exact leaf_nd pre_0 (by assumption)) (by first | exact bool_sh (by assumption) | exact whole_sh (by assumption)) (by first | exact bool_sh (by assumption) | exact leaf_sh pre_0 (by assumption)))))) (.inl (by first | (simp only [mr_l_alike, c_1, c_4, cond_true, cond_false, Bool.not_true, Bool.not_false, goM, goN]; first | done | rfl) | (simp only [mr_l_alike]; rw [c_1, c_4]; first | done | rfl) | (simp only [mr_l_alike]; (try dsimp only at c_1); (try dsimp only at c_4); (try simp only [c_1, cond_true, cond_false, Bool.not_true, Bool.not_false, goM, goN]); (try simp only [c_4, cond_true, cond_false, Bool.not_true, Bool.not_false, goM, goN]); first | done | rfl)))
  have q_c_4 := c_4
  try simp only [eqD_t, eqD_f, decide_eq_true_eq, decide_eq_false_iff_not, Bool.not_eq_true', Bool.not_eq_false', Bool.and_eq_true, Bool.or_eq_true, Bool.and_eq_false_iff, Bool.or_eq_false_iff, Bool.not_true, Bool.not_false, Bool.not_not, Decidable.not_not] at q_c_4
  exact ds_retD (de_and (de_call (f := "_law_whole") (c_l_whole.at hr) rfl (da_cons (de_v 0 (pv 0)) da_nil) ⟨l_found, rfl, rfl⟩) (fun h_2 => by have q := h_2; (try simp only [eqD_t, eqD_f, decide_eq_true_eq, decide_eq_false_iff_not, Bool.not_eq_true', Bool.not_eq_false', Bool.and_eq_true, Bool.or_eq_true, Bool.and_eq_false_iff, Bool.or_eq_false_iff, Bool.not_true, Bool.not_false, Bool.not_not, Decidable.not_not] at q); exact (de_one (de_eqD hr.units (de_v 0 (pv 0)) (de_v 1 (pv 1)) (by first | exact bool_nd (by assumption) | exact whole_nd (by assumption)) (by first | exact bool_nd (by assumption) | exact leaf_nd pre_0 (by assumption)) (by first | exact bool_sh (by assumption) | exact whole_sh (by assumption)) (by first | exact bool_sh (by assumption) | exact leaf_sh pre_0 (by assumption)))))) (.inl (by first | (simp only [mr_l_alike, c_1, c_4, cond_true, cond_false, Bool.not_true, Bool.not_false, goM, goN]; first | done | rfl) | (simp only [mr_l_alike]; rw [c_1, c_4]; first | done | rfl) | (simp only [mr_l_alike]; (try dsimp only at c_1); (try dsimp only at c_4); (try simp only [c_1, cond_true, cond_false, Bool.not_true, Bool.not_false, goM, goN]); (try simp only [c_4, cond_true, cond_false, Bool.not_true, Bool.not_false, goM, goN]); first | done | rfl)))
theorem okn_l_alike (F : Def K mg "_law_alike" s_l_alike ["_law_found", "_law_due"]) (T : Txt K mg A) (c_l_whole : Cal P w K mg base "_law_whole" 1 r_l_whole 1) (hf : ∀ xs r, ¬ rr_l_alike 0 xs r) : ∀ n : Nat, Cal P w K mg base "_law_alike" 2 (rr_l_alike n) (n + 2)
  | 0 => by rw [Nat.zero_add]; exact ok0_l_alike F hf
  | n + 1 => by rw [Nat.add_right_comm]; exact oks_l_alike F T c_l_whole (okn_l_alike F T c_l_whole hf n)
theorem rec0_l_alike : ∀ xs r, ¬ rr_l_alike 0 xs r := by
  rintro xs r ⟨a, b, h, _⟩
  exact Bool.noConfusion h
theorem ok_l_alike (F : Def K mg "_law_alike" s_l_alike ["_law_found", "_law_due"]) (T : Txt K mg A) (c_l_whole : Cal P w K mg base "_law_whole" 1 r_l_whole 1) : Cal P w K mg base "_law_alike" 2 r_l_alike 10 := okn_l_alike F T c_l_whole rec0_l_alike 8
def m_l_shown (l_net : (Int × (List (T5 Int Int (Int × Int) (Int × Int) Bool)))) (l_wishes_here : (List (T4 Int Int (Int × Int) Bool))) (l_text : PySem.Str) : Bool := (let l_found_1 := (m_net_text l_net l_wishes_here); ((isStr (.str l_found_1)) && (decide (l_found_1 = l_text))))
def r_l_shown (xs : List PyData) (r : Res) : Prop := ∃ (l_net : (Int × (List (T5 Int Int (Int × Int) (Int × Int) Bool)))) (l_wishes_here : (List (T4 Int Int (Int × Int) Bool))) (l_text : PySem.Str), (NtS l_net.1 l_net.2 l_wishes_here) ∧ xs = [((eP PyData.int (eL (eT5 PyData.int PyData.int (eP PyData.int PyData.int) (eP PyData.int PyData.int) PyData.bool))) l_net), ((eL (eT4 PyData.int PyData.int (eP PyData.int PyData.int) PyData.bool)) l_wishes_here), (.str l_text)] ∧ r = .v (.bool (m_l_shown l_net l_wishes_here l_text))
abbrev N_l_shown : List Str := ["_law_net", "_law_wishes_here", "_law_text", "_law_found"]
theorem sc_l_shown : FnScope N_l_shown ["_law_net", "_law_wishes_here", "_law_text"] (defScope s_l_shown) := ⟨rfl, rfl, rfl, by decide +kernel, rfl, by decide +kernel, by decide +kernel⟩
theorem ok_l_shown (F : Def K mg "_law_shown" s_l_shown ["_law_net", "_law_wishes_here", "_law_text"]) (T : Txt K mg A) (c_net_text : Cal P w K mg base "net_text" 2 r_net_text 2) : Cal P w K mg base "_law_shown" 3 r_l_shown 3 := by
  refine cal_ok F sc_l_shown rfl fun fa cdv AA outer ss HH EE X hX C hr xs r hl hR => ?_
  obtain ⟨l_net, l_wishes_here, l_text, pre_0, rfl, rfl⟩ := hR
  subst hX
  show DSs _ _ _ [.v ((eP PyData.int (eL (eT5 PyData.int PyData.int (eP PyData.int PyData.int) (eP PyData.int PyData.int) PyData.bool))) l_net), .v ((eL (eT4 PyData.int PyData.int (eP PyData.int PyData.int) PyData.bool)) l_wishes_here), .v (.str l_text), .no] _
  obtain ⟨l_found_1, e_l_found_1⟩ : ∃ z : PySem.Str, z = (m_net_text l_net l_wishes_here) := ⟨_, rfl⟩
  refine ds_then (E' := [.v ((eP PyData.int (eL (eT5 PyData.int PyData.int (eP PyData.int PyData.int) (eP PyData.int PyData.int) PyData.bool))) l_net), .v ((eL (eT4 PyData.int PyData.int (eP PyData.int PyData.int) PyData.bool)) l_wishes_here), .v (.str l_text), .v (.str l_found_1)]) (ds_set (x := (.str l_found_1)) (ln 3 sc_l_shown.nd) (deC (by subst e_l_found_1; rfl) (de_call (f := "net_text") (c_net_text.at hr) rfl (da_cons (de_v 0 (pv 0)) (da_cons (de_v 1 (pv 1)) da_nil)) ⟨l_net, l_wishes_here, (by first | omega | assumption | decide), rfl, rfl⟩))) ?_
  exact ds_retD (de_and (de_isi (kit_str (.str l_found_1)) (de_v 3 (pv 3)) rfl T.b_isinstance rfl T.b_str) (fun _ => (de_one (de_eqS (de_v 3 (pv 3)) (de_v 2 (pv 2)))))) (.inl (by subst e_l_found_1; simp only [m_l_shown, cond_true, cond_false, Bool.not_true, Bool.not_false, goM, goN]; try rfl))
/-! ### what the texts read: the plain law -/
abbrev Rd5 := T5 Int Int Fr Fr Bool
abbrev Ws4 := T4 Int Int Fr Bool
theorem tl_num' {n : Int} (h : 0 ≤ n) : TL.tl (toString n : PySem.Str) = TL.numL n.toNat := by
  obtain ⟨k, rfl⟩ := Int.eq_ofNat_of_zero_le h
  show TL.tl (Str.ofString (toString ((k : Nat) : Int))) = _
  rw [TL.tl_num, Int.toNat_natCast]
theorem numL_head (n : Nat) : 1 ≤ n → ∃ c l, TL.numL n = c :: l ∧ c ≠ 48 := by
  induction n using Nat.strongRecOn with
  | _ n ih =>
    intro h
    by_cases c : n < 10
    · exact ⟨48 + n, [], TL.numL_lt c, by omega⟩
    · obtain ⟨d, l, e, hd⟩ := ih (n / 10) (by omega) (by omega)
      exact ⟨d, l ++ [48 + n % 10], by rw [TL.numL_step (by omega), e]; rfl, hd⟩
theorem numL_long : ∀ (k n : Nat), 10 ^ k ≤ n → k < (TL.numL n).length
  | 0, n, _ => List.length_pos_iff.mpr (TL.numL_ne n)
  | k + 1, n, h => by
    have hk : 1 ≤ 10 ^ k := Nat.one_le_pow _ _ (by decide)
    rw [Nat.pow_succ] at h
    have h2 : 10 ^ k ≤ n / 10 := (Nat.le_div_iff_mul_le (by decide)).mpr h
    have h3 := numL_long k (n / 10) h2
    rw [TL.numL_step (by omega), List.length_append]
    simp only [List.length_cons, List.length_nil]
    omega
theorem len_num {n : Int} (h : 0 ≤ n) : (toString n : PySem.Str).length = (TL.numL n.toNat).length := by rw [TL.len_tl, tl_num' h]
theorem int_num' {n : Int} (h : 0 ≤ n ∧ n < 1000000000000000000) : intS (toString n : PySem.Str) = n := by
  obtain ⟨k, rfl⟩ := Int.eq_ofNat_of_zero_le h.1
  unfold intS
  have hk : k < 10 ^ 18 := by show k < 1000000000000000000; have := h.2; omega
  have e : PySem.intText? (Str.ofString (toString ((k : Nat) : Int))) = some (k : Int) := TL.int_num (Nat.le_trans (TL.numL_len (k := 18) (by decide) hk) (by decide))
  rw [e]
  rfl
theorem figs_num {n : Int} (h : 0 ≤ n) : ∀ s ∈ signs (toString n : PySem.Str), sgC s ∈ figs := fun s hs => by
  have h1 := (signs_mem hs).2
  rw [show (toString n : PySem.Str).cps.toList = TL.numL n.toNat from tl_num' h] at h1
  exact figs_in.mpr (TL.numL_digits _ _ h1)
theorem whole_loop : ∀ {ss : List PySem.Str}, (∀ s ∈ ss, sgC s ∈ figs) → forG l_whole_read_1 ss () = .nx ()
  | [], _ => rfl
  | s :: ss, h => by
    have e : l_whole_read_1 () s = .nx () := by
      show (bif (!decide (sgC s ∈ figs)) then (.rt (none : Option Int) : Go Unit (Option Int)) else .nx ()) = _
      rw [decide_eq_true (h s List.mem_cons_self)]
      rfl
    rw [forG, e]
    exact whole_loop fun x hx => h x (List.mem_cons_of_mem _ hx)
theorem whole_num {n : Int} (h : 0 ≤ n ∧ n < 1000000000000000000) : m_whole_read (toString n : PySem.Str) = some n := by
  have hl := len_num h.1
  have h1 : 1 ≤ (TL.numL n.toNat).length := List.length_pos_iff.mpr (TL.numL_ne _)
  have hk : n.toNat < 10 ^ 18 := by show n.toNat < 1000000000000000000; omega
  have h2 := TL.numL_len (n := n.toNat) (k := 18) (by decide) hk
  unfold m_whole_read
  rw [decide_eq_false (show ¬ (((toString n : PySem.Str).length : Int) < 1) by omega), decide_eq_false (show ¬ ((18 : Int) < ((toString n : PySem.Str).length : Int)) by omega), whole_loop (figs_num h.1)]
  show (bif (decide (sgAt (toString n : PySem.Str) 0 = ("0" : PySem.Str)) && decide ((1 : Int) < ((toString n : PySem.Str).length : Int))) then none else some (intS (toString n : PySem.Str))) = some n
  rw [int_num' h]
  have h3 : (decide (sgAt (toString n : PySem.Str) 0 = ("0" : PySem.Str)) && decide ((1 : Int) < ((toString n : PySem.Str).length : Int))) = false := by
    by_cases c : n < 10
    · have e1 : (TL.numL n.toNat).length = 1 := by rw [TL.numL_lt (by omega)]; rfl
      rw [decide_eq_false (show ¬ ((1 : Int) < ((toString n : PySem.Str).length : Int)) by omega), Bool.and_false]
    · obtain ⟨d, l, e, hd⟩ := numL_head n.toNat (by omega)
      have hne : ¬ sgAt (toString n : PySem.Str) 0 = ("0" : PySem.Str) := fun z => by
        have h5 : TL.tl (sgAt (toString n : PySem.Str) 0) = TL.tl ("0" : PySem.Str) := congrArg TL.tl z
        rw [show TL.tl ("0" : PySem.Str) = [48] by decide +kernel] at h5
        have h6 : gx (TL.tl (toString n : PySem.Str)) 0 = 48 := (List.cons.inj h5).1
        rw [tl_num' h.1, e] at h6
        have h8 := gx_natI (d :: l) (q := 0) (by decide) (by show (0 : Int) < ((l.length + 1 : Nat) : Int); omega)
        rw [h6] at h8
        exact hd (Option.some.inj h8)
      rw [decide_eq_false hne]
      rfl
  rw [h3]
  rfl
theorem whole_long {n : Int} (h : 1000000000000000000 ≤ n) : m_whole_read (toString n : PySem.Str) = none := by
  have hl := len_num (n := n) (by omega)
  have hk : 10 ^ 18 ≤ n.toNat := by show 1000000000000000000 ≤ n.toNat; omega
  have h1 := numL_long 18 n.toNat hk
  unfold m_whole_read
  rw [decide_eq_true (show (18 : Int) < ((toString n : PySem.Str).length : Int) by omega), Bool.or_true]
  rfl
theorem figure_num {n : Int} (h : 0 ≤ n ∧ n < 10) : m_figure_read (toString n : PySem.Str) = some n := by
  have hl := len_num h.1
  have h1 : (TL.numL n.toNat).length = 1 := by rw [TL.numL_lt (by omega)]; rfl
  have h2 : sgC (toString n : PySem.Str) ∈ figs := figs_in.mpr (by
    rw [show sgC (toString n : PySem.Str) = gx (TL.tl (toString n : PySem.Str)) 0 from rfl, tl_num' h.1, TL.numL_lt (by omega)]
    show 48 ≤ 48 + n.toNat ∧ 48 + n.toNat ≤ 57
    omega)
  show (bif (!decide (((toString n : PySem.Str).length : Int) = 1) || !decide (sgC (toString n : PySem.Str) ∈ figs)) then none else some (intS (toString n : PySem.Str))) = _
  rw [decide_eq_true (show ((toString n : PySem.Str).length : Int) = 1 by omega), decide_eq_true h2, int_num' ⟨h.1, by omega⟩]
  rfl
/-! fractions -/
theorem free_num {n : Int} {c : Nat} (h : 0 ≤ n) (hc : c < 48) : c ∉ TL.tl (toString n : PySem.Str) := by rw [tl_num' h]; exact TL.numL_free (.inl hc)
theorem free_num2 {n : Int} {c : Nat} (h : 0 ≤ n) (hc : 57 < c) : c ∉ TL.tl (toString n : PySem.Str) := by rw [tl_num' h]; exact TL.numL_free (.inr hc)
theorem tl_slash : TL.tl ("/" : PySem.Str) = [47] := by decide +kernel
theorem tl_blank : TL.tl (" " : PySem.Str) = [32] := by decide +kernel
theorem tl_semi : TL.tl ("; " : PySem.Str) = [59, 32] := by decide +kernel
theorem part_some {a b : PySem.Str} (h : 47 ∉ TL.tl a) : partS (a ++ ("/" : PySem.Str) ++ b) ("/" : PySem.Str) = ⟨a, ("/" : PySem.Str), b⟩ := by
  unfold partS
  rw [TL.partition_app (s := 47) (S := []) tl_slash h]
theorem part_no {a : PySem.Str} (h : 47 ∉ TL.tl a) : partS a ("/" : PySem.Str) = ⟨a, Str.empty, Str.empty⟩ := by
  unfold partS
  rw [TL.partition_none (s := 47) (S := []) tl_slash h]
theorem number_two {f : Fr} (h : f.2 ≠ 1) : m_l_number f = (toString f.1 : PySem.Str) ++ ("/" : PySem.Str) ++ (toString f.2 : PySem.Str) := by
  unfold m_l_number
  rw [decide_eq_false h]
  rfl
theorem number_one {f : Fr} (h : f.2 = 1) : m_l_number f = (toString f.1 : PySem.Str) := by
  unfold m_l_number
  rw [decide_eq_true h]
  rfl
theorem no_slash : ¬ (Str.empty : PySem.Str) = ("/" : PySem.Str) := fun z => by
  have := congrArg TL.tl z
  rw [tl_slash] at this
  cases this
theorem fraction_num {f : Fr} (h : FrG f) : m_fraction_read (m_l_number f) = some f := by
  have hb := h.b
  by_cases c : f.2 = 1
  · rw [number_one c]
    unfold m_fraction_read
    rw [part_no (free_num h.t.1 (by decide))]
    simp only
    rw [decide_eq_false no_slash, whole_num h.t]
    show some (f.1, (1 : Int)) = some f
    rw [← c]
  · rw [number_two c]
    unfold m_fraction_read
    rw [part_some (free_num h.t.1 (by decide))]
    simp only
    rw [whole_num h.t, whole_num ⟨by omega, hb.2⟩]
    rw [decide_true]
    show (bif (true && (decide (f.2 < 2) || !decide (m_common_part f.1 f.2 = 1))) then none else some (f.1, f.2)) = some f
    rw [m_common_part_eq, h.g, decide_eq_false (show ¬ f.2 < 2 by omega)]
    rfl
theorem fraction_long1 {n : Int} (h : 1000000000000000000 ≤ n) : m_fraction_read (m_l_number (n, 1)) = none := by
  rw [number_one rfl]
  unfold m_fraction_read
  rw [part_no (free_num (show 0 ≤ n by omega) (by decide))]
  simp only
  rw [decide_eq_false no_slash, whole_long h]
  rfl
theorem fraction_long2 {n : Int} (h : 1000000000000000000 ≤ n) : m_fraction_read (m_l_number (1, n)) = none := by
  rw [number_two (f := (1, n)) (show n ≠ 1 by omega)]
  unfold m_fraction_read
  rw [part_some (free_num (show (0 : Int) ≤ 1 by decide) (by decide))]
  simp only
  rw [whole_long h, decide_true]
  show (bif ((m_whole_read (toString (1 : Int) : PySem.Str)).isNone || true) then _ else _) = none
  rw [Bool.or_true]
  rfl
/-! words and parts -/
theorem mem_joinL {S : List Nat} {c : Nat} : ∀ {ps : List (List Nat)}, c ∈ TL.joinL S ps → c ∈ S ∨ ∃ p ∈ ps, c ∈ p
  | [], h => by cases h
  | [p], h => .inr ⟨p, List.mem_singleton.mpr rfl, h⟩
  | p :: q :: r, h => by
    rcases List.mem_append.mp h with z | z
    · exact .inr ⟨p, List.mem_cons_self, z⟩
    · rcases List.mem_append.mp z with z | z
      · exact .inl z
      · rcases mem_joinL z with y | ⟨t, ht, y⟩
        · exact .inl y
        · exact .inr ⟨t, List.mem_cons_of_mem _ ht, y⟩
def NoSp (x : PySem.Str) : Prop := 32 ∉ TL.tl x ∧ 59 ∉ TL.tl x
theorem nosp_num {n : Int} (h : 0 ≤ n) : NoSp (toString n : PySem.Str) := ⟨free_num h (by decide), free_num2 h (by decide)⟩
theorem nosp_number {f : Fr} (h : FrS f) : NoSp (m_l_number f) := by
  by_cases c : f.2 = 1
  · rw [number_one c]; exact nosp_num h.1.1
  · rw [number_two c]
    have h1 := nosp_num h.1.1
    have h2 := nosp_num h.2.1
    constructor
    · rw [TL.tl_append, TL.tl_append, tl_slash, List.mem_append, List.mem_append]
      rintro ((z | z) | z)
      · exact h1.1 z
      · exact absurd (List.mem_singleton.mp z) (by decide)
      · exact h2.1 z
    · rw [TL.tl_append, TL.tl_append, tl_slash, List.mem_append, List.mem_append]
      rintro ((z | z) | z)
      · exact h1.2 z
      · exact absurd (List.mem_singleton.mp z) (by decide)
      · exact h2.2 z
theorem split_words {ws : List PySem.Str} (hne : ws ≠ []) (h : ∀ w ∈ ws, NoSp w) : splitS (joinS (" " : PySem.Str) ws) (" " : PySem.Str) = ws :=
  TL.split_join (s := 32) (S := []) tl_blank (by decide +kernel) hne fun p hp => (h p hp).1
theorem split_parts {ps : List PySem.Str} (hne : ps ≠ []) (h : ∀ p ∈ ps, 59 ∉ TL.tl p) : splitS (joinS ("; " : PySem.Str) ps) ("; " : PySem.Str) = ps :=
  TL.split_join (s := 59) (S := [32]) tl_semi (by decide +kernel) hne h
theorem no59_words {ws : List PySem.Str} (h : ∀ w ∈ ws, NoSp w) : 59 ∉ TL.tl (joinS (" " : PySem.Str) ws) := by
  show 59 ∉ TL.tl (Txt.join (" " : PySem.Str) ws)
  rw [TL.join_eq, TL.tl_join, tl_blank]
  intro z
  rcases mem_joinL z with y | ⟨p, hp, y⟩
  · exact absurd (List.mem_singleton.mp y) (by decide)
  · obtain ⟨w, hw, rfl⟩ := List.mem_map.mp hp
    exact (h w hw).2 y
abbrev hdR (b : Bool) : PySem.Str := (gx ([("road" : PySem.Str), ("lane" : PySem.Str)] : (List PySem.Str)) (if b = true then (1 : Int) else 0))
abbrev hdW (b : Bool) : PySem.Str := (gx ([("wish" : PySem.Str), ("bus" : PySem.Str)] : (List PySem.Str)) (if b = true then (1 : Int) else 0))
abbrev wdR (r : Rd5) : List PySem.Str := [hdR r.e, (toString r.a : PySem.Str), (toString r.b : PySem.Str), m_l_number r.c, m_l_number r.d]
abbrev wdW (r : Ws4) : List PySem.Str := [hdW r.d, (toString r.a : PySem.Str), (toString r.b : PySem.Str), m_l_number r.c]
abbrev roadT (r : Rd5) : PySem.Str := joinS (" " : PySem.Str) (wdR r)
abbrev wishT (r : Ws4) : PySem.Str := joinS (" " : PySem.Str) (wdW r)
instance : DecidablePred NoSp := fun x => by unfold NoSp; infer_instance
theorem nosp_hdR (b : Bool) : NoSp (hdR b) := by cases b <;> decide +kernel
theorem nosp_hdW (b : Bool) : NoSp (hdW b) := by cases b <;> decide +kernel
theorem nosp_R {r : Rd5} (h : RdS r) : ∀ w ∈ wdR r, NoSp w := by
  intro w hw
  simp only [List.mem_cons, List.not_mem_nil, or_false] at hw
  rcases hw with rfl | rfl | rfl | rfl | rfl
  · exact nosp_hdR _
  · exact nosp_num h.a.1
  · exact nosp_num h.b.1
  · exact nosp_number h.c
  · exact nosp_number h.d
theorem nosp_W {r : Ws4} (h : WsS r) : ∀ w ∈ wdW r, NoSp w := by
  intro w hw
  simp only [List.mem_cons, List.not_mem_nil, or_false] at hw
  rcases hw with rfl | rfl | rfl | rfl
  · exact nosp_hdW _
  · exact nosp_num h.a.1
  · exact nosp_num h.b.1
  · exact nosp_number h.c
def gtab (y : PySem.Str) : Option Int := getS [(("road" : PySem.Str), (5 : Int)), (("lane" : PySem.Str), (5 : Int)), (("wish" : PySem.Str), (4 : Int)), (("bus" : PySem.Str), (4 : Int))] y
theorem gtab_R (b : Bool) : gtab (hdR b) = some 5 := by cases b <;> decide +kernel
theorem gtab_W (b : Bool) : gtab (hdW b) = some 4 := by cases b <;> decide +kernel
theorem row_R {r : Rd5} (h : RdS r) {o1 o2 : Option Int} {o3 o4 : Option Fr} (e1 : m_figure_read (toString r.a : PySem.Str) = o1) (e2 : m_figure_read (toString r.b : PySem.Str) = o2) (e3 : m_fraction_read (m_l_number r.c) = o3) (e4 : m_fraction_read (m_l_number r.d) = o4) : m_row_read (roadT r) = bif (optL o1 o2 [o3, o4]).any isNon then none else some (asRow (hdR r.e) (optL o1 o2 [o3, o4])) := by
  unfold m_row_read
  simp only
  rw [split_words (List.cons_ne_nil _ _) (nosp_R h)]
  show (bif ((gtab (hdR r.e)).isNone || !decide (((wdR r).length : Int) = (gtab (hdR r.e)).getD default)) then none else (bif (optL (m_figure_read (toString r.a : PySem.Str)) (m_figure_read (toString r.b : PySem.Str)) [m_fraction_read (m_l_number r.c), m_fraction_read (m_l_number r.d)]).any isNon then none else some (asRow (hdR r.e) (optL (m_figure_read (toString r.a : PySem.Str)) (m_figure_read (toString r.b : PySem.Str)) [m_fraction_read (m_l_number r.c), m_fraction_read (m_l_number r.d)])))) = _
  rw [gtab_R, e1, e2, e3, e4]
  rfl
theorem row_W {r : Ws4} (h : WsS r) {o1 o2 : Option Int} {o3 : Option Fr} (e1 : m_figure_read (toString r.a : PySem.Str) = o1) (e2 : m_figure_read (toString r.b : PySem.Str) = o2) (e3 : m_fraction_read (m_l_number r.c) = o3) : m_row_read (wishT r) = bif (optL o1 o2 [o3]).any isNon then none else some (asRow (hdW r.d) (optL o1 o2 [o3])) := by
  unfold m_row_read
  simp only
  rw [split_words (List.cons_ne_nil _ _) (nosp_W h)]
  show (bif ((gtab (hdW r.d)).isNone || !decide (((wdW r).length : Int) = (gtab (hdW r.d)).getD default)) then none else (bif (optL (m_figure_read (toString r.a : PySem.Str)) (m_figure_read (toString r.b : PySem.Str)) [m_fraction_read (m_l_number r.c)]).any isNon then none else some (asRow (hdW r.d) (optL (m_figure_read (toString r.a : PySem.Str)) (m_figure_read (toString r.b : PySem.Str)) [m_fraction_read (m_l_number r.c)])))) = _
  rw [gtab_W, e1, e2, e3]
  rfl
/-- a road, a wish that is read -/
structure RdG (r : Rd5) : Prop where
  a : 0 ≤ r.a ∧ r.a < 10
  b : 0 ≤ r.b ∧ r.b < 10
  c : FrG r.c
  d : FrG r.d
structure WsG (r : Ws4) : Prop where
  a : 0 ≤ r.a ∧ r.a < 10
  b : 0 ≤ r.b ∧ r.b < 10
  c : FrG r.c
theorem RdG.s {r : Rd5} (h : RdG r) : RdS r := by
  have h1 := h.a
  have h2 := h.b
  exact ⟨⟨h1.1, by omega⟩, ⟨h2.1, by omega⟩, h.c.s, h.d.s⟩
theorem WsG.s {r : Ws4} (h : WsG r) : WsS r := by
  have h1 := h.a
  have h2 := h.b
  exact ⟨⟨h1.1, by omega⟩, ⟨h2.1, by omega⟩, h.c.s⟩
theorem row_road {r : Rd5} (h : RdG r) : m_row_read (roadT r) = some ⟨hdR r.e, r.a, r.b, [r.c, r.d]⟩ := by
  rw [row_R h.s (figure_num h.a) (figure_num h.b) (fraction_num h.c) (fraction_num h.d)]
  rfl
theorem row_wish {r : Ws4} (h : WsG r) : m_row_read (wishT r) = some ⟨hdW r.d, r.a, r.b, [r.c]⟩ := by
  rw [row_W h.s (figure_num h.a) (figure_num h.b) (fraction_num h.c)]
  rfl
theorem row_none1 {r : Rd5} (h : RdS r) (e : m_fraction_read (m_l_number r.c) = none) : m_row_read (roadT r) = none := by
  rw [row_R h rfl rfl e rfl, optL_any]
  show (bif (_ || (_ || (true || _))) then _ else _) = none
  rw [Bool.true_or, Bool.or_true, Bool.or_true]
  rfl
theorem row_none2 {r : Rd5} (h : RdS r) (e : m_fraction_read (m_l_number r.d) = none) : m_row_read (roadT r) = none := by
  rw [row_R h rfl rfl rfl e, optL_any]
  show (bif (_ || (_ || ((m_fraction_read (m_l_number r.c)).isNone || (true || false)))) then _ else _) = none
  rw [Bool.true_or, Bool.or_true, Bool.or_true, Bool.or_true]
  rfl
/-! ### what the texts read: the net -/
theorem forG_app' {α β : Type} {f : List β → α → Go (List β) Empty} {g : α → β} (h : ∀ s a, f s a = .nx (s ++ [g a])) : ∀ (xs : List α) (s : List β), forG f xs s = .nx (s ++ xs.map g)
  | [], s => by rw [List.map_nil, List.append_nil]; rfl
  | x :: xs, s => by
    rw [forG, h]
    show forG f xs (s ++ [g x]) = _
    rw [forG_app' h xs, List.append_assoc]
    rfl
theorem forG_id {σ α ρ : Type} {f : σ → α → Go σ ρ} : ∀ {xs : List α} {s : σ}, (∀ a ∈ xs, f s a = .nx s) → forG f xs s = .nx s
  | [], _, _ => rfl
  | x :: xs, s, h => by
    rw [forG, h x List.mem_cons_self]
    exact forG_id fun a ha => h a (List.mem_cons_of_mem _ ha)
theorem forG_stop {σ α ρ : Type} {f : σ → α → Go σ ρ} {r : ρ} : ∀ {xs : List α} {n : Nat} {a : α} (I : Nat → σ → Prop) (_ : ∀ i a s, i < n → xs[i]? = some a → I i s → ∃ s', f s a = .nx s' ∧ I (i + 1) s') (_ : ∀ s, I n s → f s a = .rt r) (_ : xs[n]? = some a) {s : σ} (_ : I 0 s), forG f xs s = .rt r
  | [], _, _, _, _, _, ha, _, _ => by cases ha
  | x :: xs, 0, a, I, _, fail, ha, s, h0 => by
    cases ha
    rw [forG, fail s h0]
  | x :: xs, n + 1, a, I, step, fail, ha, s, h0 => by
    obtain ⟨s', k1, k2⟩ := step 0 x s (Nat.succ_pos _) rfl h0
    rw [forG, k1]
    exact forG_stop (fun i => I (i + 1)) (fun i b t hi hb ht => step (i + 1) b t (by omega) hb ht) fail ha k2
abbrev headT (m : Int) : PySem.Str := (("places " : PySem.Str) ++ (toString m : PySem.Str))
def partsOf (m : Int) (rs : List Rd5) (ws : List Ws4) : List PySem.Str := headT m :: (rs.map roadT ++ ws.map wishT)
theorem words_parts (m : Int) (rs : List Rd5) (ws : List Ws4) : m_l_words m rs ws = joinS ("; " : PySem.Str) (partsOf m rs ws) := by
  unfold m_l_words
  simp only
  rw [goN_nx (forG_app' (f := l_l_words_1) (g := roadT) (fun s a => rfl) rs _), goN_nx (forG_app' (f := l_l_words_2) (g := wishT) (fun s a => rfl) ws _)]
  rfl
theorem places_free : 59 ∉ TL.tl ("places " : PySem.Str) := by decide +kernel
theorem parts_59 {m : Int} {rs : List Rd5} {ws : List Ws4} (h : NtS m rs ws) : ∀ p ∈ partsOf m rs ws, 59 ∉ TL.tl p := by
  intro p hp
  rcases List.mem_cons.mp hp with z | z
  · rw [z, TL.tl_append, List.mem_append]
    rintro (y | y)
    · exact places_free y
    · exact (nosp_num h.n.1).2 y
  · rcases List.mem_append.mp z with z | z
    · obtain ⟨r, hr, rfl⟩ := List.mem_map.mp z
      exact no59_words (nosp_R (h.r r hr))
    · obtain ⟨w, hw, rfl⟩ := List.mem_map.mp z
      exact no59_words (nosp_W (h.w w hw))
theorem split_net {m : Int} {rs : List Rd5} {ws : List Ws4} (h : NtS m rs ws) : splitS (m_l_words m rs ws) ("; " : PySem.Str) = partsOf m rs ws := by
  rw [words_parts]
  exact split_parts (List.cons_ne_nil _ _) (parts_59 h)
theorem words_len {m : Int} {rs : List Rd5} {ws : List Ws4} (h : NtS m rs ws) : (m_l_words m rs ws).length ≤ 1000000 := by
  rw [words_parts]
  refine ptS_len (n := 2001) ⟨fun x hx => ?_, ?_⟩ (by decide) (by decide +kernel)
  · rcases List.mem_cons.mp hx with z | z
    · rw [z]; exact lw_1 h.n
    · rcases List.mem_append.mp z with z | z
      · obtain ⟨r, hr, rfl⟩ := List.mem_map.mp z
        exact Nat.le_trans (join_len _ _) (lw_r (h.r r hr))
      · obtain ⟨w, hw, rfl⟩ := List.mem_map.mp z
        exact Nat.le_trans (join_len _ _) (lw_w (h.w w hw))
  · unfold partsOf
    rw [List.length_cons, List.length_append, List.length_map, List.length_map]
    have := h.rl
    have := h.wl
    omega
theorem tl_places : TL.tl ("places " : PySem.Str) = TL.tl ("places" : PySem.Str) ++ TL.tl (" " : PySem.Str) := by decide +kernel
theorem places_ok {m : Int} (h : 0 ≤ m ∧ m < 10) : m_places_read (headT m) = .ok m := by
  have e : headT m = ("places" : PySem.Str) ++ (" " : PySem.Str) ++ (toString m : PySem.Str) := TL.ext_tl (by rw [TL.tl_append, TL.tl_append, TL.tl_append, tl_places])
  have hp : partS (headT m) (" " : PySem.Str) = ⟨("places" : PySem.Str), (" " : PySem.Str), (toString m : PySem.Str)⟩ := by
    unfold partS
    rw [e, TL.partition_app (s := 32) (S := []) tl_blank (by decide +kernel)]
  unfold m_places_read
  simp only
  rw [hp]
  show (bif (!decide (("places" : PySem.Str) = ("places" : PySem.Str)) || (m_figure_read (toString m : PySem.Str)).isNone) then (.error ⟨9, 0, []⟩ : Except Er Int) else .ok ((m_figure_read (toString m : PySem.Str)).getD default)) = .ok m
  rw [figure_num h, decide_eq_true rfl]
  rfl
theorem places_at {m : Int} {rs : List Rd5} {ws : List Ws4} (h : 0 ≤ m ∧ m < 10) : m_places_read (gx (partsOf m rs ws) 0) = .ok m := by
  have e : gx (partsOf m rs ws) 0 = headT m := gx_eq (Int.le_refl 0) rfl
  rw [e]
  exact places_ok h
theorem gx_tail {α : Type} [Inhabited α] {x : α} {xs : List α} {i : Nat} {y : α} (h : xs[i]? = some y) : gx (x :: xs) (1 + (i : Int)) = y := by
  have hl := get_lt h
  have e := gx_natI (x :: xs) (q := 1 + (i : Int)) (by omega) (by show 1 + (i : Int) < ((xs.length + 1 : Nat) : Int); omega)
  rw [show (1 + (i : Int)).toNat = i + 1 by omega] at e
  exact (Option.some.inj (h.symm.trans e)).symm
theorem hdR_lane (b : Bool) : decide (hdR b = ("lane" : PySem.Str)) = b := by cases b <;> decide +kernel
theorem hdW_bus (b : Bool) : decide (hdW b = ("bus" : PySem.Str)) = b := by cases b <;> decide +kernel
theorem turn_road {ps : List PySem.Str} {k : Int} {r : Rd5} {acc : List Rd5} (hp : gx ps k = roadT r) (h : RdG r) : l_read_net_1 ps (acc, []) k = .nx (acc ++ [r], []) := by
  unfold l_read_net_1
  simp only
  rw [hp, row_road h]
  show (bif (false || (decide (((5 : Nat) : Int) = 5) && (!eqD ([] : List Ws4) []))) then (.rt (.error ⟨9, k, []⟩) : Go ((List Rd5) × (List Ws4)) (Except Er ((Int × (List Rd5)) × (List Ws4)))) else .nx ((bif decide (((5 : Nat) : Int) = 5) then (acc ++ [⟨r.a, r.b, r.c, r.d, decide (hdR r.e = ("lane" : PySem.Str))⟩], ([] : List Ws4)) else (acc, [] ++ [⟨r.a, r.b, r.c, decide (hdR r.e = ("bus" : PySem.Str))⟩])).1, (bif decide (((5 : Nat) : Int) = 5) then (acc ++ [⟨r.a, r.b, r.c, r.d, decide (hdR r.e = ("lane" : PySem.Str))⟩], ([] : List Ws4)) else (acc, [] ++ [⟨r.a, r.b, r.c, decide (hdR r.e = ("bus" : PySem.Str))⟩])).2)) = _
  rw [eqD_self, hdR_lane]
  rfl
theorem turn_wish {ps : List PySem.Str} {k : Int} {w : Ws4} {rs : List Rd5} {acc : List Ws4} (hp : gx ps k = wishT w) (h : WsG w) : l_read_net_1 ps (rs, acc) k = .nx (rs, acc ++ [w]) := by
  unfold l_read_net_1
  simp only
  rw [hp, row_wish h]
  show (bif (false || (decide (((4 : Nat) : Int) = 5) && (!eqD acc []))) then (.rt (.error ⟨9, k, []⟩) : Go ((List Rd5) × (List Ws4)) (Except Er ((Int × (List Rd5)) × (List Ws4)))) else .nx ((bif decide (((4 : Nat) : Int) = 5) then (rs ++ [⟨w.a, w.b, w.c, gx [w.c] 1, decide (hdW w.d = ("lane" : PySem.Str))⟩], acc) else (rs, acc ++ [⟨w.a, w.b, w.c, decide (hdW w.d = ("bus" : PySem.Str))⟩])).1, (bif decide (((4 : Nat) : Int) = 5) then (rs ++ [⟨w.a, w.b, w.c, gx [w.c] 1, decide (hdW w.d = ("lane" : PySem.Str))⟩], acc) else (rs, acc ++ [⟨w.a, w.b, w.c, decide (hdW w.d = ("bus" : PySem.Str))⟩])).2)) = _
  rw [hdW_bus]
  rfl
theorem turn_none {ps : List PySem.Str} {k : Int} {r : Rd5} {s : (List Rd5) × (List Ws4)} (hp : gx ps k = roadT r) (h : m_row_read (roadT r) = none) : l_read_net_1 ps s k = .rt (.error ⟨9, k, []⟩) := by
  unfold l_read_net_1
  simp only
  rw [hp, h]
  rfl
theorem parts_at1 {m : Int} {rs : List Rd5} {ws : List Ws4} {i : Nat} {r : Rd5} (h : rs[i]? = some r) : gx (partsOf m rs ws) (1 + (i : Int)) = roadT r := by
  have hl := get_lt h
  refine gx_tail ?_
  rw [List.getElem?_append_left (by rw [List.length_map]; exact hl), List.getElem?_map, h]
  rfl
theorem parts_at2 {m : Int} {rs : List Rd5} {ws : List Ws4} {i : Nat} {w : Ws4} (hi : rs.length ≤ i) (h : ws[i - rs.length]? = some w) : gx (partsOf m rs ws) (1 + (i : Int)) = wishT w := by
  refine gx_tail ?_
  rw [List.getElem?_append_right (by rw [List.length_map]; exact hi), List.length_map, List.getElem?_map, h]
  rfl
theorem take_snoc {α : Type} {xs : List α} {i : Nat} {a : α} (h : xs[i]? = some a) : xs.take (i + 1) = xs.take i ++ [a] := by
  obtain ⟨hl, e⟩ := List.getElem?_eq_some_iff.mp h
  rw [← e, List.take_succ_eq_append_getElem hl]
theorem parts_len (m : Int) (rs : List Rd5) (ws : List Ws4) : (((partsOf m rs ws).length : Int) - 1).toNat = rs.length + ws.length := by
  unfold partsOf
  rw [List.length_cons, List.length_append, List.length_map, List.length_map]
  omega
theorem loop_net {m : Int} {rs : List Rd5} {ws : List Ws4} (hr : ∀ r ∈ rs, RdG r) (hw : ∀ w ∈ ws, WsG w) : forG (l_read_net_1 (partsOf m rs ws)) (rng 1 (((partsOf m rs ws).length : Int) - 1).toNat) ([], []) = .nx (rs, ws) := by
  rw [parts_len]
  obtain ⟨s, e, h⟩ := forG_inv (f := l_read_net_1 (partsOf m rs ws)) (xs := rng 1 (rs.length + ws.length)) (fun i s => s = (rs.take i, ws.take (i - rs.length))) (fun i a s ha hi => by
    obtain ⟨h1, h2⟩ := rng_get ha
    subst h1
    rw [hi]
    by_cases c : i < rs.length
    · have hx : rs[i]? = some rs[i] := List.getElem?_eq_getElem c
      rw [show i - rs.length = 0 by omega, show i + 1 - rs.length = 0 by omega]
      exact ⟨_, turn_road (parts_at1 hx) (hr _ (List.getElem_mem c)), by rw [take_snoc hx]; rfl⟩
    · have c2 : i - rs.length < ws.length := by omega
      have hx : ws[i - rs.length]? = some ws[i - rs.length] := List.getElem?_eq_getElem c2
      refine ⟨_, turn_wish (parts_at2 (by omega) hx) (hw _ (List.getElem_mem c2)), ?_⟩
      rw [show i + 1 - rs.length = (i - rs.length) + 1 by omega, take_snoc hx, List.take_of_length_le (show rs.length ≤ i by omega), List.take_of_length_le (show rs.length ≤ i + 1 by omega)]) (s := ([], [])) (by rw [List.take_zero, Nat.zero_sub, List.take_zero])
  rw [rng_len] at h
  rw [e, h, List.take_of_length_le (by omega), List.take_of_length_le (by omega)]
theorem loop_stop {m : Int} {rs : List Rd5} {ws : List Ws4} {n : Nat} {r : Rd5} (hn : rs[n]? = some r) (hr : ∀ (i : Nat) q, i < n → rs[i]? = some q → RdG q) (h : m_row_read (roadT r) = none) : forG (l_read_net_1 (partsOf m rs ws)) (rng 1 (((partsOf m rs ws).length : Int) - 1).toNat) ([], []) = .rt (.error ⟨9, 1 + (n : Int), []⟩) := by
  have hl := get_lt hn
  rw [parts_len]
  have hat : (rng 1 (rs.length + ws.length))[n]? = some (1 + (n : Int)) := by
    unfold rng
    rw [List.getElem?_map, List.getElem?_range (by omega)]
    rfl
  refine forG_stop (n := n) (fun i s => s = (rs.take i, ([] : List Ws4))) (fun i a s hi ha hs => ?_) (fun s hs => turn_none (parts_at1 hn) h) hat (by rw [List.take_zero])
  obtain ⟨h1, h2⟩ := rng_get ha
  subst h1
  rw [hs]
  have hx : rs[i]? = some rs[i] := List.getElem?_eq_getElem (by omega)
  exact ⟨_, turn_road (parts_at1 hx) (hr i _ hi hx), by rw [take_snoc hx]⟩
theorem gx_pre {r s : List Int} (h : r <+: s) {j : Int} (h0 : 0 ≤ j) (h1 : j < (r.length : Int)) : gx s j = gx r j := by
  obtain ⟨t, rfl⟩ := h
  have e1 := gx_natI (r ++ t) (q := j) h0 (by rw [List.length_append]; omega)
  have e2 := gx_natI r (q := j) h0 h1
  rw [List.getElem?_append_left (by omega), e2] at e1
  exact (Option.some.inj e1).symm
theorem reached_pass {rs : List Rd} {r : List Int} {k : Int} (hrs : ∀ q ∈ rs, (0 ≤ q.a ∧ q.a < 6) ∧ (0 ≤ q.b ∧ q.b < 6)) (h : RcI r) (h0 : 0 ≤ k) (h1 : k < (r.length : Int)) : ∃ r', forG (l_reached_from_2 k) rs r = .nx r' ∧ RcI r' ∧ r <+: r' ∧ ∀ q ∈ rs, q.a = gx r k → q.b ∈ r' := by
  obtain ⟨s, e, h2, h3, h4⟩ := forG_inv (f := l_reached_from_2 k) (xs := rs) (fun i s => (RcI s ∧ k < (s.length : Int)) ∧ r <+: s ∧ ∀ j q, j < i → rs[j]? = some q → q.a = gx r k → q.b ∈ s) (fun i a s ha hi => by
    obtain ⟨s', k1, k2⟩ := reached_step (hrs a (List.mem_of_getElem? ha)) hi.1
    have hg := gx_pre hi.2.1 h0 h1
    have hs' : s' = bif ((decide (a.a = (gx s k))) && (!decide (a.b ∈ s))) then s ++ [a.b] else s := by
      unfold l_reached_from_2 at k1
      cases k1
      rfl
    have hsub : ∀ x ∈ s, x ∈ s' := fun x hx => by
      rw [hs']
      cases (decide (a.a = (gx s k)) && (!decide (a.b ∈ s)))
      · exact hx
      · exact List.mem_append_left _ hx
    have hpre : s <+: s' := by
      rw [hs']
      cases (decide (a.a = (gx s k)) && (!decide (a.b ∈ s)))
      · exact List.prefix_refl _
      · exact List.prefix_append _ _
    refine ⟨s', k1, k2, hi.2.1.trans hpre, fun j q hj hq hk => ?_⟩
    by_cases c : j = i
    · subst c
      rw [ha] at hq
      cases hq
      by_cases m : a.b ∈ s
      · exact hsub _ m
      · rw [hs', decide_eq_true (hk.trans hg.symm), decide_eq_false m]
        exact List.mem_append_right _ (List.mem_singleton.mpr rfl)
    · exact hsub _ (hi.2.2 j q (by omega) hq hk)) (s := r) ⟨⟨h, h1⟩, List.prefix_refl _, fun j q hj => absurd hj (Nat.not_lt_zero _)⟩
  exact ⟨s, e, h2.1, h3, fun q hq hk => by
    obtain ⟨j, hj⟩ := List.getElem?_of_mem hq
    exact h4 j q (get_lt hj) hj hk⟩
theorem reached_has {net : Int × List Rd} {s e : Int} {lane : Bool} (h2 : ∀ r ∈ net.2, (0 ≤ r.a ∧ r.a < 6) ∧ (0 ≤ r.b ∧ r.b < 6)) (hs : 0 ≤ s ∧ s < 6) (hc : Cn (usb net.2 lane) e [s]) : e ∈ m_reached_from net s lane := by
  unfold m_reached_from
  simp only
  generalize er : (m_usable_roads net lane).map (fun a => gx net.2 a) = rs
  have hrs := some_in (lane := lane) h2 er.symm
  obtain ⟨z, k1, ⟨k2, k3, k4, k5⟩, k6⟩ := whileG_inv (c := l_reached_from_1_c rs) (f := l_reached_from_1 rs) (fun z => RcI z.1 ∧ 0 ≤ z.2 ∧ s ∈ z.1 ∧ ∀ j, 0 ≤ j → j < z.2 → j < (z.1.length : Int) → ∀ q ∈ rs, q.a = gx z.1 j → q.b ∈ z.1) (fun z => (6 - z.2).toNat) (fun z hz hcz => by
    have hlt : z.2 < (z.1.length : Int) := of_decide_eq_true hcz
    obtain ⟨r', e1, e2, e3, e4⟩ := reached_pass hrs hz.1 hz.2.1 hlt
    have hl := e3.length_le
    have h6 := hz.1.le
    have h0 := hz.2.1
    refine ⟨(r', z.2 + 1), ?_, ⟨e2, by show 0 ≤ z.2 + 1; omega, e3.subset hz.2.2.1, fun j j0 j1 j2 q hq hk => ?_⟩, ?_⟩
    · unfold l_reached_from_1
      rw [goN_nx e1]
    · have j1' : j < z.2 + 1 := j1
      have hg := gx_pre e3 j0 (show j < (z.1.length : Int) by omega)
      have hk' : q.a = gx z.1 j := hk.trans hg
      by_cases c : j = z.2
      · rw [c] at hk'; exact e4 q hq hk'
      · exact e3.subset (hz.2.2.2 j j0 (by omega) (by omega) q hq hk')
    · show (6 - (z.2 + 1)).toNat < _
      omega) ((6 - (0 : Int)).toNat + 1) ([s], 0) ⟨rcI_0 hs, Int.le_refl _, List.mem_singleton.mpr rfl, fun j j0 j1 => absurd j1 (by show ¬ j < 0; omega)⟩ (Nat.lt_succ_self _)
  rw [goN_nx k1]
  have hge : ¬ z.2 < (z.1.length : Int) := of_decide_eq_false k6
  refine (List.mergeSort_perm z.1 _).mem_iff.mpr (hc.shut (R := z.1) (fun q hq hm => ?_) (by show s ∈ z.1; exact k4))
  obtain ⟨p, hp, rfl⟩ := List.mem_map.mp hq
  have hpm := (List.mem_filter.mp hp).1
  obtain ⟨j, hj⟩ := List.getElem?_of_mem hm
  have hl := get_lt hj
  have hg := gx_natI z.1 (q := (j : Int)) (by omega) (by omega)
  rw [show ((j : Int)).toNat = j by omega, hj] at hg
  have hin : p.2 ∈ rs := by
    rw [← er]
    refine List.mem_map.mpr ⟨p.1, ?_, enumL_gx hpm⟩
    unfold m_usable_roads
    exact List.mem_map.mpr ⟨p, hp, rfl⟩
  exact k5 (j : Int) (by omega) (by omega) (by omega) p.2 hin (Option.some.inj hg)
theorem RgI.good {m : Int} {ws : List Ws4} {rs : List Rd5} (hm : 2 ≤ m ∧ m ≤ 6) (h : RgI m ws rs) : ∀ r ∈ rs, RdG r := fun r hr => by
  have h1 := h.rd.ends r hr
  have h2 := h.rd.fr r hr
  exact ⟨by omega, by omega, h2.2.1, h2.2.2⟩
theorem WtI.good {m : Int} {n : Nat} {ws : List Ws4} (hm : 2 ≤ m ∧ m ≤ 6) (h : WtI m n ws) : ∀ w ∈ ws, WsG w := fun w hw => by
  obtain ⟨h1, h2, _, h4, _⟩ := h.each w hw
  exact ⟨by omega, by omega, h4⟩
theorem WtI.two {m : Int} {n : Nat} {ws : List Ws4} (h : WtI m n ws) : ∀ w ∈ ws, (0 ≤ w.a ∧ w.a < m) ∧ (0 ≤ w.b ∧ w.b < m) := fun w hw => ⟨(h.each w hw).1, (h.each w hw).2.1⟩
theorem WtI.ne {m : Int} {n : Nat} {ws : List Ws4} (h : WtI m n ws) : ∀ w ∈ ws, w.a ≠ w.b := fun w hw => (h.each w hw).2.2.1
theorem nts_of {m : Int} {n : Nat} {ws : List Ws4} {rs : List Rd5} (hm : 2 ≤ m ∧ m ≤ 6) (hn : 1 ≤ n ∧ n ≤ 3) (hw : WtI m n ws) (hr : RgI m ws rs) : NtS m rs ws :=
  ⟨⟨by omega, by omega⟩, Nat.le_trans hr.rd.len (by decide), by rw [hw.len]; omega, fun r h => (hr.good hm r h).s, fun w h => (hw.good hm w h).s⟩
theorem made_net_ok {m : Int} {ws : List Ws4} {rs : List Rd5} (hm : 2 ≤ m ∧ m ≤ 6) (hr : RgI m ws rs) : m_made_net m rs = .ok (m, rs) := by
  have hl := hr.rd.len
  unfold m_made_net
  rw [decide_eq_false (show ¬ m < 2 by omega), decide_eq_false (show ¬ (6 : Int) < m by omega), decide_eq_false (show ¬ (12 : Int) < (rs.length : Int) by omega)]
  rw [forG_id (f := l_made_net_1 m) (xs := rs) (s := ()) fun r h => by
    have h1 := hr.rd.ends r h
    have h2 := hr.rd.fr r h
    unfold l_made_net_1
    rw [road_of h1.1 h1.2 h2.1 h2.2.1 h2.2.2]
    rfl]
  rfl
theorem ways_cnt (m : Int) (rs : List Rd5) (w : Ws4) : ((m_ways_of (m, rs) w).length : Int) = m_l_listed rs w.a w.b w.d := by
  unfold m_ways_of
  rw [ways_between_eq, listed_cnt, cnt_eq]
theorem made_wishes_ok {m : Int} {n : Nat} {ws : List Ws4} {rs : List Rd5} (hm : 2 ≤ m ∧ m ≤ 6) (hn : 1 ≤ n ∧ n ≤ 3) (hw : WtI m n ws) (hr : RgI m ws rs) : m_made_wishes (m, rs) ws = .ok ws := by
  have hwl := hw.len
  have h6 := hr.rd.six hm.2
  unfold m_made_wishes
  rw [decide_eq_false (show ¬ (ws.length : Int) < 1 by omega), decide_eq_false (show ¬ (3 : Int) < (ws.length : Int) by omega)]
  rw [forG_id (f := l_made_wishes_1 (m, rs)) (xs := ws) (s := ()) fun w h => by
    obtain ⟨h1, h2, h3, h4, h5⟩ := hw.each w h
    unfold l_made_wishes_1
    rw [show m_wish_fits w (m, rs).1 = true from fits_of h1 h2 h3 h4 h5]
    rfl]
  rw [forG_id (f := l_made_wishes_2 (m, rs)) (xs := enumL ws) (s := ()) fun p h => by
    have hin := enumL_in h
    obtain ⟨h1, h2, h3, h4, h5⟩ := hw.each p.2 hin
    have hre := reached_has (net := (m, rs)) h6 (show 0 ≤ p.2.a ∧ p.2.a < 6 by omega) (hr.cn p.2 hin)
    unfold l_made_wishes_2 m_ask_way
    simp only
    rw [decide_eq_true hre]
    rfl]
  have hmany := hr.many
  unfold m_l_many at hmany
  have e : (fun w => ((m_ways_of (m, rs) w).length : Int)) = (fun w : Ws4 => m_l_listed rs w.a w.b w.d) := funext fun w => ways_cnt m rs w
  show (bif decide ((10 : Int) < (ws.map (fun w => ((m_ways_of (m, rs) w).length : Int))).sum) then _ else _) = _
  rw [e, decide_eq_false (show ¬ (10 : Int) < (ws.map (fun w : Ws4 => m_l_listed rs w.a w.b w.d)).sum from Int.not_lt.mpr hmany)]
  rfl
theorem read_words {m : Int} {n : Nat} {ws : List Ws4} {rs : List Rd5} (hm : 2 ≤ m ∧ m ≤ 6) (hn : 1 ≤ n ∧ n ≤ 3) (hw : WtI m n ws) (hr : RgI m ws rs) : m_read_net (m_l_words m rs ws) = .ok ((m, rs), ws) ∧ RnO (m_l_words m rs ws) := by
  have hs := split_net (nts_of hm hn hw hr)
  have hp := places_at (rs := rs) (ws := ws) (m := m) ⟨by omega, by omega⟩
  have hl := loop_net (m := m) (hr.good hm) (hw.good hm)
  constructor
  · unfold m_read_net
    simp only
    rw [hs, hl, hp]
    simp only [goM]
    have hk : okvE (.ok m : Except Er Int) = m := rfl
    rw [hk, made_net_ok hm hr]
    have hk2 : okvE (.ok (m, rs) : Except Er (Int × List Rd5)) = (m, rs) := rfl
    rw [hk2, made_wishes_ok hm hn hw hr]
    rfl
  · refine ⟨⟨m, by rw [hs]; exact hp⟩, fun many rs' ws' h1 h2 => ?_⟩
    rw [hs] at h1 h2
    rw [hp] at h1
    rw [hl] at h2
    cases h1
    cases h2
    have h6 := hr.rd.six hm.2
    have hl2 := hr.rd.len
    exact ⟨hl2, made_net_ok hm hr, made_wishes_ok hm hn hw hr, by omega, h6, fun w h => by have := (hw.each w h).1; omega⟩
/-! the longer one -/
abbrev lgL (n : Int) : Fr := gx ([((((10 : Int) ^ 18) + n), (1 : Int)), ((1 : Int), (((10 : Int) ^ 18) + n))] : (List (Int × Int))) (n % (2 : Int))
abbrev lgR (r : Rd5) (n : Int) : Rd5 := gx ([⟨r.a, r.b, lgL n, r.d, r.e⟩, ⟨r.a, r.b, r.c, lgL n, r.e⟩] : List Rd5) ((n / (64 : Int)) % (2 : Int))
abbrev lgA (n : Int) (rs : List Rd5) : Int := (n / (2 : Int)) % (rs.length : Int)
def lgW (n : Int) (rs : List Rd5) : List Rd5 := sx rs (lgA n rs) (lgR (gx rs (lgA n rs)) n)
theorem lgL_ok {n : Int} (h : 0 ≤ n ∧ n < 2147483629) : FrS (lgL n) ∧ m_fraction_read (m_l_number (lgL n)) = none := by
  have e : ((10 : Int) ^ 18) = 1000000000000000000 := rfl
  obtain c | c : n % 2 = 0 ∨ n % 2 = 1 := by omega
  · unfold lgL
    rw [c, e]
    exact ⟨⟨⟨by show 0 ≤ 1000000000000000000 + n; omega, by show 1000000000000000000 + n < _; omega⟩, (show (0 : Int) ≤ 1 by decide), (show (1 : Int) < 100000000000000000000 by decide)⟩, fraction_long1 (by omega)⟩
  · unfold lgL
    rw [c, e]
    exact ⟨⟨⟨(show (0 : Int) ≤ 1 by decide), (show (1 : Int) < 100000000000000000000 by decide)⟩, by show 0 ≤ 1000000000000000000 + n; omega, by show 1000000000000000000 + n < _; omega⟩, fraction_long2 (by omega)⟩
theorem lgR_ok {n : Int} {r : Rd5} (h : 0 ≤ n ∧ n < 2147483629) (hr : RdS r) : RdS (lgR r n) ∧ m_row_read (roadT (lgR r n)) = none := by
  obtain ⟨h1, h2⟩ := lgL_ok h
  unfold lgR
  obtain c | c : (n / 64) % 2 = 0 ∨ (n / 64) % 2 = 1 := by omega
  · rw [c]
    have hs : RdS ⟨r.a, r.b, lgL n, r.d, r.e⟩ := ⟨hr.a, hr.b, h1, hr.d⟩
    exact ⟨hs, row_none1 hs h2⟩
  · rw [c]
    have hs : RdS ⟨r.a, r.b, r.c, lgL n, r.e⟩ := ⟨hr.a, hr.b, hr.c, h1⟩
    exact ⟨hs, row_none2 hs h2⟩
theorem rs_pos {m : Int} {n : Nat} {ws : List Ws4} {rs : List Rd5} (hn : 1 ≤ n ∧ n ≤ 3) (hw : WtI m n ws) (hr : RgI m ws rs) : 0 < rs.length := by
  have hl := hw.len
  match ws, hl with
  | [], hl => simp only [List.length_nil] at hl; omega
  | w :: ws, _ =>
    have hc := hr.cn w List.mem_cons_self
    have : ∃ q, q ∈ usb rs w.d := by
      cases hc with
      | here hq _ _ => exact ⟨_, hq⟩
      | step hq _ _ _ => exact ⟨_, hq⟩
    obtain ⟨q, hq⟩ := this
    unfold usb at hq
    obtain ⟨p, hp, _⟩ := List.mem_map.mp hq
    have := enumL_in (List.mem_filter.mp hp).1
    exact List.length_pos_of_mem this
theorem longer_ok {n m : Int} {k : Nat} {ws : List Ws4} {rs : List Rd5} (h : 0 ≤ n ∧ n < 2147483629) (hm : 2 ≤ m ∧ m ≤ 6) (hn : 1 ≤ k ∧ k ≤ 3) (hw : WtI m k ws) (hr : RgI m ws rs) : NtS m (lgW n rs) ws ∧ m_read_net (m_l_words m (lgW n rs) ws) = .error ⟨9, lgA n rs + 1, []⟩ ∧ RnO (m_l_words m (lgW n rs) ws) := by
  have hpos := rs_pos hn hw hr
  have hat : 0 ≤ lgA n rs ∧ lgA n rs < (rs.length : Int) := ⟨Int.emod_nonneg _ (by omega), Int.emod_lt_of_pos _ (by omega)⟩
  obtain ⟨j, ej⟩ := Int.eq_ofNat_of_zero_le hat.1
  have hj : j < rs.length := by omega
  have hgood := hr.good hm
  have hlr := lgR_ok h (hgood _ (gx_mem (xs := rs) (i := lgA n rs) ⟨by omega, hat.2⟩)).s
  have ew : lgW n rs = rs.set j (lgR (gx rs (lgA n rs)) n) := by
    unfold lgW
    rw [ej]
    unfold sx
    rw [ixD_nat (Int.natCast_nonneg j) (by omega)]
    rfl
  have hnt := nts_of hm hn hw hr
  have hNt : NtS m (lgW n rs) ws := ⟨hnt.n, by rw [ew, List.length_set]; exact hnt.rl, hnt.wl, fun r hx => by
    rw [ew] at hx
    rcases List.mem_or_eq_of_mem_set hx with z | z
    · exact hnt.r r z
    · rw [z]; exact hlr.1, hnt.w⟩
  have hs := split_net hNt
  have hp := places_at (rs := lgW n rs) (ws := ws) (m := m) ⟨by omega, by omega⟩
  have hloop := loop_stop (m := m) (rs := lgW n rs) (ws := ws) (n := j) (r := lgR (gx rs (lgA n rs)) n) (by rw [ew]; exact List.getElem?_set_self hj) (fun i q hi hq => by
    rw [ew, List.getElem?_set_ne (by omega)] at hq
    exact hgood q (List.mem_of_getElem? hq)) hlr.2
  refine ⟨hNt, ?_, ⟨m, by rw [hs]; exact hp⟩, fun many rs' ws' h1 h2 => ?_⟩
  · unfold m_read_net
    simp only
    rw [hs, hloop, ej]
    show (.error ⟨9, 1 + (j : Int), []⟩ : Except Er _) = _
    rw [Int.add_comm]
  · rw [hs, hloop] at h2
    cases h2
/-! ### the text told -/
theorem net_words (m : Int) (rs : List Rd5) (ws : List Ws4) : m_net_text (m, rs) ws = m_l_words m rs ws := by
  have h1 : ∀ s a, l_net_text_1 s a = .nx (s ++ [roadT a]) := fun s a => by
    unfold l_net_text_1
    simp only
    rw [← number_eq, ← number_eq]
  have h2 : ∀ s a, l_net_text_2 s a = .nx (s ++ [wishT a]) := fun s a => by
    unfold l_net_text_2
    simp only
    rw [← number_eq]
  have e0 : joinL [("places " : PySem.Str), (toString m : PySem.Str)] PySem.Str.empty = headT m := TL.ext_tl (by
    show TL.tl ((PySem.Str.empty ++ ("places " : PySem.Str)) ++ (toString m : PySem.Str)) = _
    rw [TL.tl_append, TL.tl_append, TL.tl_append]
    rfl)
  unfold m_net_text
  simp only
  rw [goN_nx (forG_app' (f := l_net_text_1) (g := roadT) h1 rs _), goN_nx (forG_app' (f := l_net_text_2) (g := wishT) h2 ws _), words_parts, e0]
  rfl
theorem shown_ok (m : Int) (rs : List Rd5) (ws : List Ws4) : m_l_shown (m, rs) ws (m_l_words m rs ws) = true := by
  show (true && decide (m_net_text (m, rs) ws = m_l_words m rs ws)) = true
  rw [net_words, decide_eq_true rfl]
  rfl
theorem whole_some {o : Option Int} (h : m_l_whole ((eO PyData.int) o) = true) : o.isNone = false := by
  cases o with
  | none => cases h
  | some x => rfl
abbrev rO (k : Int) : Rd5 := ⟨0, 1, (k, 1), (0, 1), true⟩
abbrev wO : Ws4 := ⟨0, 1, (1, 2), true⟩
theorem oth_a : TL.tl ("places 2; lane 0 1 " : PySem.Str) = (TL.tl ("places " : PySem.Str) ++ TL.numL 2) ++ ([59, 32] ++ (TL.tl ("lane" : PySem.Str) ++ ([32] ++ (TL.numL 0 ++ ([32] ++ (TL.numL 1 ++ [32])))))) := by decide +kernel
theorem oth_b : TL.tl (" 0; bus 0 1 1/2" : PySem.Str) = [32] ++ (TL.numL 0 ++ ([59, 32] ++ (TL.tl ("bus" : PySem.Str) ++ ([32] ++ (TL.numL 0 ++ ([32] ++ (TL.numL 1 ++ ([32] ++ ((TL.numL 1 ++ [47]) ++ TL.numL 2))))))))) := by decide +kernel
theorem oth_text (k : Int) : ((("places 2; lane 0 1 " : PySem.Str) ++ (toString k : PySem.Str)) ++ (" 0; bus 0 1 1/2" : PySem.Str)) = m_l_words 2 [rO k] [wO] := by
  have t0 : TL.tl (toString (0 : Int) : PySem.Str) = TL.numL 0 := tl_num' (by decide)
  have t1 : TL.tl (toString (1 : Int) : PySem.Str) = TL.numL 1 := tl_num' (by decide)
  have t2 : TL.tl (toString (2 : Int) : PySem.Str) = TL.numL 2 := tl_num' (by decide)
  have tr : TL.tl (roadT (rO k)) = TL.tl ("lane" : PySem.Str) ++ ([32] ++ (TL.numL 0 ++ ([32] ++ (TL.numL 1 ++ ([32] ++ (TL.tl (toString k : PySem.Str) ++ ([32] ++ TL.numL 0))))))) := by
    show TL.tl (Txt.join (" " : PySem.Str) (wdR (rO k))) = _
    rw [TL.join_eq, TL.tl_join, tl_blank]
    show TL.tl (hdR true) ++ ([32] ++ (TL.tl (toString (0 : Int) : PySem.Str) ++ ([32] ++ (TL.tl (toString (1 : Int) : PySem.Str) ++ ([32] ++ (TL.tl (m_l_number (k, 1)) ++ ([32] ++ TL.tl (m_l_number (0, 1))))))))) = _
    rw [number_one (f := (k, 1)) rfl, number_one (f := (0, 1)) rfl, t0, t1]
    rfl
  have tw' : TL.tl (wishT wO) = TL.tl ("bus" : PySem.Str) ++ ([32] ++ (TL.numL 0 ++ ([32] ++ (TL.numL 1 ++ ([32] ++ ((TL.numL 1 ++ [47]) ++ TL.numL 2)))))) := by
    show TL.tl (Txt.join (" " : PySem.Str) (wdW wO)) = _
    rw [TL.join_eq, TL.tl_join, tl_blank]
    show TL.tl (hdW true) ++ ([32] ++ (TL.tl (toString (0 : Int) : PySem.Str) ++ ([32] ++ (TL.tl (toString (1 : Int) : PySem.Str) ++ ([32] ++ TL.tl (m_l_number (1, 2))))))) = _
    rw [number_two (f := (1, 2)) (show (2 : Int) ≠ 1 by decide), TL.tl_append, TL.tl_append, tl_slash, t0, t1, t2]
    rfl
  rw [words_parts]
  apply TL.ext_tl
  rw [TL.tl_append, TL.tl_append, oth_a, oth_b]
  have tj : TL.tl (joinS ("; " : PySem.Str) (partsOf 2 [rO k] [wO])) = TL.tl (headT 2) ++ ([59, 32] ++ (TL.tl (roadT (rO k)) ++ ([59, 32] ++ TL.tl (wishT wO)))) := by
    show TL.tl (Txt.join ("; " : PySem.Str) [headT 2, roadT (rO k), wishT wO]) = _
    rw [TL.join_eq, TL.tl_join, tl_semi]
    rfl
  rw [tj, tr, tw', TL.tl_append, t2]
  simp only [List.append_assoc]
theorem oth_w : WtI 2 1 [wO] := ⟨rfl, fun w hw => by
  rw [List.mem_singleton.mp hw]
  exact ⟨⟨by decide, by decide⟩, ⟨by decide, by decide⟩, by decide, ⟨⟨by decide, by decide⟩, ⟨by decide, by decide⟩, by decide⟩, by decide⟩⟩
theorem oth_r {k : Int} (hk : 0 ≤ k ∧ k < 1000) : RgI 2 [wO] [rO k] := by
  have hd : RdI 2 12 [rO k] := ⟨by show 1 ≤ 12; decide, fun r hr => by rw [List.mem_singleton.mp hr]; exact ⟨(show (0 : Int) ≤ 0 ∧ (0 : Int) < 2 by decide), (show (0 : Int) ≤ 1 ∧ (1 : Int) < 2 by decide)⟩, fun r hr => by
    rw [List.mem_singleton.mp hr]
    exact ⟨(show (0 : Int) ≠ 1 by decide), frG_one (by omega), frG_one (by decide)⟩⟩
  refine ⟨hd, fun w hw => ?_, ?_⟩
  · rw [List.mem_singleton.mp hw]
    obtain ⟨q, hq, e⟩ := usb_of (rs := [rO k]) (lane := true) (r := rO k) (List.mem_singleton.mpr rfl) rfl
    exact cn_one hq e
  · have := many_few (rs := [rO k]) (m := 2) (ws := [wO]) (by decide) hd (by show 1 ≤ 3; decide) (fun w hw => by rw [List.mem_singleton.mp hw]; exact ⟨by decide, by decide⟩)
    have e : ((([wO] : List Ws4).length : Nat) : Int) = 1 := rfl
    omega
theorem oth_ok {k : Int} (hk : 0 ≤ k ∧ k < 1000) : m_read_net ((("places 2; lane 0 1 " : PySem.Str) ++ (toString k : PySem.Str)) ++ (" 0; bus 0 1 1/2" : PySem.Str)) = .ok ((2, [rO k]), [wO]) ∧ RnO ((("places 2; lane 0 1 " : PySem.Str) ++ (toString k : PySem.Str)) ++ (" 0; bus 0 1 1/2" : PySem.Str)) ∧ ((("places 2; lane 0 1 " : PySem.Str) ++ (toString k : PySem.Str)) ++ (" 0; bus 0 1 1/2" : PySem.Str)).length ≤ 1000000 := by
  rw [oth_text]
  obtain ⟨h1, h2⟩ := read_words (m := 2) (n := 1) (by decide) (by decide) oth_w (oth_r hk)
  exact ⟨h1, h2, words_len (nts_of (m := 2) (n := 1) (by decide) (by decide) oth_w (oth_r hk))⟩
def m_l_longer (l_script : (List Int)) (l_many_here : Int) (l_roads_here : (List (T5 Int Int (Int × Int) (Int × Int) Bool))) (l_wishes_here : (List (T4 Int Int (Int × Int) Bool))) : Bool := (let l_number_here_1 := (m_l_mixed l_script (6 : Int)); (let l_at_1 := ((l_number_here_1 / (2 : Int)) % (l_roads_here.length : Int)); (let l_long_1 := (gx ([((((10 : Int) ^ 18) + l_number_here_1), (1 : Int)), ((1 : Int), (((10 : Int) ^ 18) + l_number_here_1))] : (List (Int × Int))) (l_number_here_1 % (2 : Int))); (let l_wide_1 := (sx l_roads_here l_at_1 (gx ([(⟨(⟨((gx l_roads_here l_at_1).a, (gx l_roads_here l_at_1).b).1, ((gx l_roads_here l_at_1).a, (gx l_roads_here l_at_1).b).2, l_long_1⟩ : (T3 Int Int (Int × Int))).a, (⟨((gx l_roads_here l_at_1).a, (gx l_roads_here l_at_1).b).1, ((gx l_roads_here l_at_1).a, (gx l_roads_here l_at_1).b).2, l_long_1⟩ : (T3 Int Int (Int × Int))).b, (⟨((gx l_roads_here l_at_1).a, (gx l_roads_here l_at_1).b).1, ((gx l_roads_here l_at_1).a, (gx l_roads_here l_at_1).b).2, l_long_1⟩ : (T3 Int Int (Int × Int))).c, ((gx l_roads_here l_at_1).d, (gx l_roads_here l_at_1).e).1, ((gx l_roads_here l_at_1).d, (gx l_roads_here l_at_1).e).2⟩ : (T5 Int Int (Int × Int) (Int × Int) Bool)), (⟨(⟨(⟨(gx l_roads_here l_at_1).a, (gx l_roads_here l_at_1).b, (gx l_roads_here l_at_1).c⟩ : (T3 Int Int (Int × Int))).a, (⟨(gx l_roads_here l_at_1).a, (gx l_roads_here l_at_1).b, (gx l_roads_here l_at_1).c⟩ : (T3 Int Int (Int × Int))).b, (⟨(gx l_roads_here l_at_1).a, (gx l_roads_here l_at_1).b, (gx l_roads_here l_at_1).c⟩ : (T3 Int Int (Int × Int))).c, l_long_1⟩ : (T4 Int Int (Int × Int) (Int × Int))).a, (⟨(⟨(gx l_roads_here l_at_1).a, (gx l_roads_here l_at_1).b, (gx l_roads_here l_at_1).c⟩ : (T3 Int Int (Int × Int))).a, (⟨(gx l_roads_here l_at_1).a, (gx l_roads_here l_at_1).b, (gx l_roads_here l_at_1).c⟩ : (T3 Int Int (Int × Int))).b, (⟨(gx l_roads_here l_at_1).a, (gx l_roads_here l_at_1).b, (gx l_roads_here l_at_1).c⟩ : (T3 Int Int (Int × Int))).c, l_long_1⟩ : (T4 Int Int (Int × Int) (Int × Int))).b, (⟨(⟨(gx l_roads_here l_at_1).a, (gx l_roads_here l_at_1).b, (gx l_roads_here l_at_1).c⟩ : (T3 Int Int (Int × Int))).a, (⟨(gx l_roads_here l_at_1).a, (gx l_roads_here l_at_1).b, (gx l_roads_here l_at_1).c⟩ : (T3 Int Int (Int × Int))).b, (⟨(gx l_roads_here l_at_1).a, (gx l_roads_here l_at_1).b, (gx l_roads_here l_at_1).c⟩ : (T3 Int Int (Int × Int))).c, l_long_1⟩ : (T4 Int Int (Int × Int) (Int × Int))).c, (⟨(⟨(gx l_roads_here l_at_1).a, (gx l_roads_here l_at_1).b, (gx l_roads_here l_at_1).c⟩ : (T3 Int Int (Int × Int))).a, (⟨(gx l_roads_here l_at_1).a, (gx l_roads_here l_at_1).b, (gx l_roads_here l_at_1).c⟩ : (T3 Int Int (Int × Int))).b, (⟨(gx l_roads_here l_at_1).a, (gx l_roads_here l_at_1).b, (gx l_roads_here l_at_1).c⟩ : (T3 Int Int (Int × Int))).c, l_long_1⟩ : (T4 Int Int (Int × Int) (Int × Int))).d, (gx l_roads_here l_at_1).e⟩ : (T5 Int Int (Int × Int) (Int × Int) Bool))] : (List (T5 Int Int (Int × Int) (Int × Int) Bool))) ((l_number_here_1 / (64 : Int)) % (2 : Int)))); (let l_text_1 := (m_l_words l_many_here l_wide_1 l_wishes_here); (bif (!(m_l_shown (l_many_here, l_wide_1) l_wishes_here l_text_1)) then false else (let l_part_1 := (none : (Option Int)); (let l_part_2 := (exP (m_read_net l_text_1)); ((m_l_whole ((eO PyData.int) l_part_2)) && (decide ((l_part_2.getD default) = (l_at_1 + (1 : Int)))))))))))))
def r_l_longer (xs : List PyData) (r : Res) : Prop := ∃ (l_script : (List Int)) (l_many_here : Int) (l_roads_here : (List (T5 Int Int (Int × Int) (Int × Int) Bool))) (l_wishes_here : (List (T4 Int Int (Int × Int) Bool))), (l_script.length ≤ 63) ∧ (2 ≤ l_many_here ∧ l_many_here ≤ 6) ∧ (∃ n : Nat, (1 ≤ n ∧ n ≤ 3) ∧ WtI l_many_here n l_wishes_here) ∧ (RgI l_many_here l_wishes_here l_roads_here) ∧ xs = [((eL PyData.int) l_script), (.int l_many_here), ((eL (eT5 PyData.int PyData.int (eP PyData.int PyData.int) (eP PyData.int PyData.int) PyData.bool)) l_roads_here), ((eL (eT4 PyData.int PyData.int (eP PyData.int PyData.int) PyData.bool)) l_wishes_here)] ∧ r = .v (.bool (m_l_longer l_script l_many_here l_roads_here l_wishes_here))
abbrev N_l_longer : List Str := ["_law_script", "_law_many_here", "_law_roads_here", "_law_wishes_here", "_law_number_here", "_law_at", "_law_long", "_law_wide", "_law_text", "_law_part", "error"]
theorem sc_l_longer : FnScope N_l_longer ["_law_script", "_law_many_here", "_law_roads_here", "_law_wishes_here"] (defScope s_l_longer) := ⟨rfl, rfl, rfl, by decide +kernel, rfl, by decide +kernel, by decide +kernel⟩
theorem ok_l_longer (F : Def K mg "_law_longer" s_l_longer ["_law_script", "_law_many_here", "_law_roads_here", "_law_wishes_here"]) (T : Txt K mg A) (c_read_net : Cal P w K mg base "read_net" 1 (r_read_net A) 6) (c_l_whole : Cal P w K mg base "_law_whole" 1 r_l_whole 1) (c_l_mixed : Cal P w K mg base "_law_mixed" 2 r_l_mixed 2) (c_l_words : Cal P w K mg base "_law_words" 3 r_l_words 2) (c_l_shown : Cal P w K mg base "_law_shown" 3 r_l_shown 3) : Cal P w K mg base "_law_longer" 4 r_l_longer 7 := by
  refine cal_ok F sc_l_longer rfl fun fa cdv AA outer ss HH EE X hX C hr xs r hl hR => ?_
  obtain ⟨l_script, l_many_here, l_roads_here, l_wishes_here, pre_0, pre_1, pre_2, pre_3, rfl, rfl⟩ := hR
  subst hX
  show DSs _ _ _ [.v ((eL PyData.int) l_script), .v (.int l_many_here), .v ((eL (eT5 PyData.int PyData.int (eP PyData.int PyData.int) (eP PyData.int PyData.int) PyData.bool)) l_roads_here), .v ((eL (eT4 PyData.int PyData.int (eP PyData.int PyData.int) PyData.bool)) l_wishes_here), .no, .no, .no, .no, .no, .no, .no] _
  obtain ⟨kw, hkn, hkw⟩ := pre_2
  have hpos := rs_pos hkn hkw pre_3
  obtain ⟨l_number_here_1, e_l_number_here_1⟩ : ∃ z : Int, z = (m_l_mixed l_script (6 : Int)) := ⟨_, rfl⟩
  refine ds_then (E' := [.v ((eL PyData.int) l_script), .v (.int l_many_here), .v ((eL (eT5 PyData.int PyData.int (eP PyData.int PyData.int) (eP PyData.int PyData.int) PyData.bool)) l_roads_here), .v ((eL (eT4 PyData.int PyData.int (eP PyData.int PyData.int) PyData.bool)) l_wishes_here), .v (.int l_number_here_1), .no, .no, .no, .no, .no, .no]) (ds_set (x := (.int l_number_here_1)) (ln 4 sc_l_longer.nd) (deC (by subst e_l_number_here_1; rfl) (de_call (f := "_law_mixed") (c_l_mixed.at hr) rfl (da_cons (de_v 0 (pv 0)) (da_cons de_int da_nil)) ⟨l_script, (6 : Int), (by first | omega | assumption | (rw [hw]; exact hlo.1) | (show NtS _ l_wide_1 _; rw [hw]; exact hlo.1) | (rw [htx]; exact words_len hlo.1) | (rw [htx]; exact hlo.2.2) | decide), (by first | omega | assumption | (rw [hw]; exact hlo.1) | (show NtS _ l_wide_1 _; rw [hw]; exact hlo.1) | (rw [htx]; exact words_len hlo.1) | (rw [htx]; exact hlo.2.2) | decide), rfl, rfl⟩))) ?_
  have hnn : 0 ≤ l_number_here_1 ∧ l_number_here_1 < 2147483629 := by rw [e_l_number_here_1]; exact ⟨mixed_nn _ _, Int.emod_lt_of_pos _ (by decide)⟩
  have hlo := longer_ok hnn pre_1 hkn hkw pre_3
  obtain ⟨l_at_1, e_l_at_1⟩ : ∃ z : Int, z = ((l_number_here_1 / (2 : Int)) % (l_roads_here.length : Int)) := ⟨_, rfl⟩
  refine ds_then (E' := [.v ((eL PyData.int) l_script), .v (.int l_many_here), .v ((eL (eT5 PyData.int PyData.int (eP PyData.int PyData.int) (eP PyData.int PyData.int) PyData.bool)) l_roads_here), .v ((eL (eT4 PyData.int PyData.int (eP PyData.int PyData.int) PyData.bool)) l_wishes_here), .v (.int l_number_here_1), .v (.int l_at_1), .no, .no, .no, .no, .no]) (ds_set (x := (.int l_at_1)) (ln 5 sc_l_longer.nd) (deC (by subst e_l_at_1; rfl) (de_mod (de_div (de_v 4 (pv 4)) de_int ⟨by decide, by decide⟩) (de_lenL (de_v 2 (pv 2)) rfl T.b_len) (by first | omega | assumption | (rw [hw]; exact hlo.1) | (show NtS _ l_wide_1 _; rw [hw]; exact hlo.1) | (rw [htx]; exact words_len hlo.1) | (rw [htx]; exact hlo.2.2) | decide)))) ?_
  have hat : l_at_1 = lgA l_number_here_1 l_roads_here := e_l_at_1
  have hai : 0 ≤ l_at_1 ∧ l_at_1 < (l_roads_here.length : Int) := by rw [hat]; exact ⟨Int.emod_nonneg _ (by omega), Int.emod_lt_of_pos _ (by omega)⟩
  obtain ⟨l_long_1, e_l_long_1⟩ : ∃ z : (Int × Int), z = (gx ([((((10 : Int) ^ 18) + l_number_here_1), (1 : Int)), ((1 : Int), (((10 : Int) ^ 18) + l_number_here_1))] : (List (Int × Int))) (l_number_here_1 % (2 : Int))) := ⟨_, rfl⟩
  refine ds_then (E' := [.v ((eL PyData.int) l_script), .v (.int l_many_here), .v ((eL (eT5 PyData.int PyData.int (eP PyData.int PyData.int) (eP PyData.int PyData.int) PyData.bool)) l_roads_here), .v ((eL (eT4 PyData.int PyData.int (eP PyData.int PyData.int) PyData.bool)) l_wishes_here), .v (.int l_number_here_1), .v (.int l_at_1), .v ((eP PyData.int PyData.int) l_long_1), .no, .no, .no, .no]) (ds_set (x := ((eP PyData.int PyData.int) l_long_1)) (ln 6 sc_l_longer.nd) (deC (by subst e_l_long_1; rfl) (de_ixL (f := (eP PyData.int PyData.int)) (xs := ([((((10 : Int) ^ 18) + l_number_here_1), (1 : Int)), ((1 : Int), (((10 : Int) ^ 18) + l_number_here_1))] : (List (Int × Int)))) (i := (l_number_here_1 % (2 : Int))) (DN.toL (f := (eP PyData.int PyData.int)) (xs := ([((((10 : Int) ^ 18) + l_number_here_1), (1 : Int)), ((1 : Int), (((10 : Int) ^ 18) + l_number_here_1))] : (List (Int × Int)))) (dn_lst (da_cons (de_tup (da_cons (de_add (de_powL 18 de_int de_int rfl (by decide) (by first | decide | omega)) (de_v 4 (pv 4))) (da_cons de_int da_nil))) (da_cons (de_tup (da_cons de_int (da_cons (de_add (de_powL 18 de_int de_int rfl (by decide) (by first | decide | omega)) (de_v 4 (pv 4))) da_nil))) da_nil)))) (de_mod (de_v 4 (pv 4)) de_int (by decide)) (by first | exact ⟨by omega, by omega⟩ | (first | exact ⟨by omega, by omega⟩ | exact inR_mod (by omega) | (unfold inR; simp only [List.length_map, List.length_append, List.length_cons, List.length_nil, List.length_replicate, rng_len, sx_len]; omega)))))) ?_
  refine ds_then (E' := [.v ((eL PyData.int) l_script), .v (.int l_many_here), .v ((eL (eT5 PyData.int PyData.int (eP PyData.int PyData.int) (eP PyData.int PyData.int) PyData.bool)) l_roads_here), .v ((eL (eT4 PyData.int PyData.int (eP PyData.int PyData.int) PyData.bool)) l_wishes_here), .v (.int l_number_here_1), .v (.int l_at_1), .v ((eP PyData.int PyData.int) l_long_1), .o (oL (eT5 PyData.int PyData.int (eP PyData.int PyData.int) (eP PyData.int PyData.int) PyData.bool) l_roads_here), .no, .no, .no]) (ds_setN (t := oL (eT5 PyData.int PyData.int (eP PyData.int PyData.int) (eP PyData.int PyData.int) PyData.bool) l_roads_here) (ln 7 sc_l_longer.nd) (dn_listL (de_v 2 (pv 2)) rfl T.b_list)) ?_
  obtain ⟨l_wide_1, e_l_wide_1⟩ : ∃ z : (List (T5 Int Int (Int × Int) (Int × Int) Bool)), z = (sx l_roads_here l_at_1 (gx ([(⟨(⟨((gx l_roads_here l_at_1).a, (gx l_roads_here l_at_1).b).1, ((gx l_roads_here l_at_1).a, (gx l_roads_here l_at_1).b).2, l_long_1⟩ : (T3 Int Int (Int × Int))).a, (⟨((gx l_roads_here l_at_1).a, (gx l_roads_here l_at_1).b).1, ((gx l_roads_here l_at_1).a, (gx l_roads_here l_at_1).b).2, l_long_1⟩ : (T3 Int Int (Int × Int))).b, (⟨((gx l_roads_here l_at_1).a, (gx l_roads_here l_at_1).b).1, ((gx l_roads_here l_at_1).a, (gx l_roads_here l_at_1).b).2, l_long_1⟩ : (T3 Int Int (Int × Int))).c, ((gx l_roads_here l_at_1).d, (gx l_roads_here l_at_1).e).1, ((gx l_roads_here l_at_1).d, (gx l_roads_here l_at_1).e).2⟩ : (T5 Int Int (Int × Int) (Int × Int) Bool)), (⟨(⟨(⟨(gx l_roads_here l_at_1).a, (gx l_roads_here l_at_1).b, (gx l_roads_here l_at_1).c⟩ : (T3 Int Int (Int × Int))).a, (⟨(gx l_roads_here l_at_1).a, (gx l_roads_here l_at_1).b, (gx l_roads_here l_at_1).c⟩ : (T3 Int Int (Int × Int))).b, (⟨(gx l_roads_here l_at_1).a, (gx l_roads_here l_at_1).b, (gx l_roads_here l_at_1).c⟩ : (T3 Int Int (Int × Int))).c, l_long_1⟩ : (T4 Int Int (Int × Int) (Int × Int))).a, (⟨(⟨(gx l_roads_here l_at_1).a, (gx l_roads_here l_at_1).b, (gx l_roads_here l_at_1).c⟩ : (T3 Int Int (Int × Int))).a, (⟨(gx l_roads_here l_at_1).a, (gx l_roads_here l_at_1).b, (gx l_roads_here l_at_1).c⟩ : (T3 Int Int (Int × Int))).b, (⟨(gx l_roads_here l_at_1).a, (gx l_roads_here l_at_1).b, (gx l_roads_here l_at_1).c⟩ : (T3 Int Int (Int × Int))).c, l_long_1⟩ : (T4 Int Int (Int × Int) (Int × Int))).b, (⟨(⟨(gx l_roads_here l_at_1).a, (gx l_roads_here l_at_1).b, (gx l_roads_here l_at_1).c⟩ : (T3 Int Int (Int × Int))).a, (⟨(gx l_roads_here l_at_1).a, (gx l_roads_here l_at_1).b, (gx l_roads_here l_at_1).c⟩ : (T3 Int Int (Int × Int))).b, (⟨(gx l_roads_here l_at_1).a, (gx l_roads_here l_at_1).b, (gx l_roads_here l_at_1).c⟩ : (T3 Int Int (Int × Int))).c, l_long_1⟩ : (T4 Int Int (Int × Int) (Int × Int))).c, (⟨(⟨(gx l_roads_here l_at_1).a, (gx l_roads_here l_at_1).b, (gx l_roads_here l_at_1).c⟩ : (T3 Int Int (Int × Int))).a, (⟨(gx l_roads_here l_at_1).a, (gx l_roads_here l_at_1).b, (gx l_roads_here l_at_1).c⟩ : (T3 Int Int (Int × Int))).b, (⟨(gx l_roads_here l_at_1).a, (gx l_roads_here l_at_1).b, (gx l_roads_here l_at_1).c⟩ : (T3 Int Int (Int × Int))).c, l_long_1⟩ : (T4 Int Int (Int × Int) (Int × Int))).d, (gx l_roads_here l_at_1).e⟩ : (T5 Int Int (Int × Int) (Int × Int) Bool))] : (List (T5 Int Int (Int × Int) (Int × Int) Bool))) ((l_number_here_1 / (64 : Int)) % (2 : Int)))) := ⟨_, rfl⟩
  refine ds_then (E' := [.v ((eL PyData.int) l_script), .v (.int l_many_here), .v ((eL (eT5 PyData.int PyData.int (eP PyData.int PyData.int) (eP PyData.int PyData.int) PyData.bool)) l_roads_here), .v ((eL (eT4 PyData.int PyData.int (eP PyData.int PyData.int) PyData.bool)) l_wishes_here), .v (.int l_number_here_1), .v (.int l_at_1), .v ((eP PyData.int PyData.int) l_long_1), .o (oL (eT5 PyData.int PyData.int (eP PyData.int PyData.int) (eP PyData.int PyData.int) PyData.bool) l_wide_1), .no, .no, .no]) (ds_setix (f := (eT5 PyData.int PyData.int (eP PyData.int PyData.int) (eP PyData.int PyData.int) PyData.bool)) (v := (gx ([(⟨(⟨((gx l_roads_here l_at_1).a, (gx l_roads_here l_at_1).b).1, ((gx l_roads_here l_at_1).a, (gx l_roads_here l_at_1).b).2, l_long_1⟩ : (T3 Int Int (Int × Int))).a, (⟨((gx l_roads_here l_at_1).a, (gx l_roads_here l_at_1).b).1, ((gx l_roads_here l_at_1).a, (gx l_roads_here l_at_1).b).2, l_long_1⟩ : (T3 Int Int (Int × Int))).b, (⟨((gx l_roads_here l_at_1).a, (gx l_roads_here l_at_1).b).1, ((gx l_roads_here l_at_1).a, (gx l_roads_here l_at_1).b).2, l_long_1⟩ : (T3 Int Int (Int × Int))).c, ((gx l_roads_here l_at_1).d, (gx l_roads_here l_at_1).e).1, ((gx l_roads_here l_at_1).d, (gx l_roads_here l_at_1).e).2⟩ : (T5 Int Int (Int × Int) (Int × Int) Bool)), (⟨(⟨(⟨(gx l_roads_here l_at_1).a, (gx l_roads_here l_at_1).b, (gx l_roads_here l_at_1).c⟩ : (T3 Int Int (Int × Int))).a, (⟨(gx l_roads_here l_at_1).a, (gx l_roads_here l_at_1).b, (gx l_roads_here l_at_1).c⟩ : (T3 Int Int (Int × Int))).b, (⟨(gx l_roads_here l_at_1).a, (gx l_roads_here l_at_1).b, (gx l_roads_here l_at_1).c⟩ : (T3 Int Int (Int × Int))).c, l_long_1⟩ : (T4 Int Int (Int × Int) (Int × Int))).a, (⟨(⟨(gx l_roads_here l_at_1).a, (gx l_roads_here l_at_1).b, (gx l_roads_here l_at_1).c⟩ : (T3 Int Int (Int × Int))).a, (⟨(gx l_roads_here l_at_1).a, (gx l_roads_here l_at_1).b, (gx l_roads_here l_at_1).c⟩ : (T3 Int Int (Int × Int))).b, (⟨(gx l_roads_here l_at_1).a, (gx l_roads_here l_at_1).b, (gx l_roads_here l_at_1).c⟩ : (T3 Int Int (Int × Int))).c, l_long_1⟩ : (T4 Int Int (Int × Int) (Int × Int))).b, (⟨(⟨(gx l_roads_here l_at_1).a, (gx l_roads_here l_at_1).b, (gx l_roads_here l_at_1).c⟩ : (T3 Int Int (Int × Int))).a, (⟨(gx l_roads_here l_at_1).a, (gx l_roads_here l_at_1).b, (gx l_roads_here l_at_1).c⟩ : (T3 Int Int (Int × Int))).b, (⟨(gx l_roads_here l_at_1).a, (gx l_roads_here l_at_1).b, (gx l_roads_here l_at_1).c⟩ : (T3 Int Int (Int × Int))).c, l_long_1⟩ : (T4 Int Int (Int × Int) (Int × Int))).c, (⟨(⟨(gx l_roads_here l_at_1).a, (gx l_roads_here l_at_1).b, (gx l_roads_here l_at_1).c⟩ : (T3 Int Int (Int × Int))).a, (⟨(gx l_roads_here l_at_1).a, (gx l_roads_here l_at_1).b, (gx l_roads_here l_at_1).c⟩ : (T3 Int Int (Int × Int))).b, (⟨(gx l_roads_here l_at_1).a, (gx l_roads_here l_at_1).b, (gx l_roads_here l_at_1).c⟩ : (T3 Int Int (Int × Int))).c, l_long_1⟩ : (T4 Int Int (Int × Int) (Int × Int))).d, (gx l_roads_here l_at_1).e⟩ : (T5 Int Int (Int × Int) (Int × Int) Bool))] : (List (T5 Int Int (Int × Int) (Int × Int) Bool))) ((l_number_here_1 / (64 : Int)) % (2 : Int)))) (xs := l_roads_here) (i := l_at_1) (fun _ => pv 7) (de_ixL (f := (eT5 PyData.int PyData.int (eP PyData.int PyData.int) (eP PyData.int PyData.int) PyData.bool)) (xs := ([(⟨(⟨((gx l_roads_here l_at_1).a, (gx l_roads_here l_at_1).b).1, ((gx l_roads_here l_at_1).a, (gx l_roads_here l_at_1).b).2, l_long_1⟩ : (T3 Int Int (Int × Int))).a, (⟨((gx l_roads_here l_at_1).a, (gx l_roads_here l_at_1).b).1, ((gx l_roads_here l_at_1).a, (gx l_roads_here l_at_1).b).2, l_long_1⟩ : (T3 Int Int (Int × Int))).b, (⟨((gx l_roads_here l_at_1).a, (gx l_roads_here l_at_1).b).1, ((gx l_roads_here l_at_1).a, (gx l_roads_here l_at_1).b).2, l_long_1⟩ : (T3 Int Int (Int × Int))).c, ((gx l_roads_here l_at_1).d, (gx l_roads_here l_at_1).e).1, ((gx l_roads_here l_at_1).d, (gx l_roads_here l_at_1).e).2⟩ : (T5 Int Int (Int × Int) (Int × Int) Bool)), (⟨(⟨(⟨(gx l_roads_here l_at_1).a, (gx l_roads_here l_at_1).b, (gx l_roads_here l_at_1).c⟩ : (T3 Int Int (Int × Int))).a, (⟨(gx l_roads_here l_at_1).a, (gx l_roads_here l_at_1).b, (gx l_roads_here l_at_1).c⟩ : (T3 Int Int (Int × Int))).b, (⟨(gx l_roads_here l_at_1).a, (gx l_roads_here l_at_1).b, (gx l_roads_here l_at_1).c⟩ : (T3 Int Int (Int × Int))).c, l_long_1⟩ : (T4 Int Int (Int × Int) (Int × Int))).a, (⟨(⟨(gx l_roads_here l_at_1).a, (gx l_roads_here l_at_1).b, (gx l_roads_here l_at_1).c⟩ : (T3 Int Int (Int × Int))).a, (⟨(gx l_roads_here l_at_1).a, (gx l_roads_here l_at_1).b, (gx l_roads_here l_at_1).c⟩ : (T3 Int Int (Int × Int))).b, (⟨(gx l_roads_here l_at_1).a, (gx l_roads_here l_at_1).b, (gx l_roads_here l_at_1).c⟩ : (T3 Int Int (Int × Int))).c, l_long_1⟩ : (T4 Int Int (Int × Int) (Int × Int))).b, (⟨(⟨(gx l_roads_here l_at_1).a, (gx l_roads_here l_at_1).b, (gx l_roads_here l_at_1).c⟩ : (T3 Int Int (Int × Int))).a, (⟨(gx l_roads_here l_at_1).a, (gx l_roads_here l_at_1).b, (gx l_roads_here l_at_1).c⟩ : (T3 Int Int (Int × Int))).b, (⟨(gx l_roads_here l_at_1).a, (gx l_roads_here l_at_1).b, (gx l_roads_here l_at_1).c⟩ : (T3 Int Int (Int × Int))).c, l_long_1⟩ : (T4 Int Int (Int × Int) (Int × Int))).c, (⟨(⟨(gx l_roads_here l_at_1).a, (gx l_roads_here l_at_1).b, (gx l_roads_here l_at_1).c⟩ : (T3 Int Int (Int × Int))).a, (⟨(gx l_roads_here l_at_1).a, (gx l_roads_here l_at_1).b, (gx l_roads_here l_at_1).c⟩ : (T3 Int Int (Int × Int))).b, (⟨(gx l_roads_here l_at_1).a, (gx l_roads_here l_at_1).b, (gx l_roads_here l_at_1).c⟩ : (T3 Int Int (Int × Int))).c, l_long_1⟩ : (T4 Int Int (Int × Int) (Int × Int))).d, (gx l_roads_here l_at_1).e⟩ : (T5 Int Int (Int × Int) (Int × Int) Bool))] : (List (T5 Int Int (Int × Int) (Int × Int) Bool)))) (i := ((l_number_here_1 / (64 : Int)) % (2 : Int))) (DN.toL (f := (eT5 PyData.int PyData.int (eP PyData.int PyData.int) (eP PyData.int PyData.int) PyData.bool)) (xs := ([(⟨(⟨((gx l_roads_here l_at_1).a, (gx l_roads_here l_at_1).b).1, ((gx l_roads_here l_at_1).a, (gx l_roads_here l_at_1).b).2, l_long_1⟩ : (T3 Int Int (Int × Int))).a, (⟨((gx l_roads_here l_at_1).a, (gx l_roads_here l_at_1).b).1, ((gx l_roads_here l_at_1).a, (gx l_roads_here l_at_1).b).2, l_long_1⟩ : (T3 Int Int (Int × Int))).b, (⟨((gx l_roads_here l_at_1).a, (gx l_roads_here l_at_1).b).1, ((gx l_roads_here l_at_1).a, (gx l_roads_here l_at_1).b).2, l_long_1⟩ : (T3 Int Int (Int × Int))).c, ((gx l_roads_here l_at_1).d, (gx l_roads_here l_at_1).e).1, ((gx l_roads_here l_at_1).d, (gx l_roads_here l_at_1).e).2⟩ : (T5 Int Int (Int × Int) (Int × Int) Bool)), (⟨(⟨(⟨(gx l_roads_here l_at_1).a, (gx l_roads_here l_at_1).b, (gx l_roads_here l_at_1).c⟩ : (T3 Int Int (Int × Int))).a, (⟨(gx l_roads_here l_at_1).a, (gx l_roads_here l_at_1).b, (gx l_roads_here l_at_1).c⟩ : (T3 Int Int (Int × Int))).b, (⟨(gx l_roads_here l_at_1).a, (gx l_roads_here l_at_1).b, (gx l_roads_here l_at_1).c⟩ : (T3 Int Int (Int × Int))).c, l_long_1⟩ : (T4 Int Int (Int × Int) (Int × Int))).a, (⟨(⟨(gx l_roads_here l_at_1).a, (gx l_roads_here l_at_1).b, (gx l_roads_here l_at_1).c⟩ : (T3 Int Int (Int × Int))).a, (⟨(gx l_roads_here l_at_1).a, (gx l_roads_here l_at_1).b, (gx l_roads_here l_at_1).c⟩ : (T3 Int Int (Int × Int))).b, (⟨(gx l_roads_here l_at_1).a, (gx l_roads_here l_at_1).b, (gx l_roads_here l_at_1).c⟩ : (T3 Int Int (Int × Int))).c, l_long_1⟩ : (T4 Int Int (Int × Int) (Int × Int))).b, (⟨(⟨(gx l_roads_here l_at_1).a, (gx l_roads_here l_at_1).b, (gx l_roads_here l_at_1).c⟩ : (T3 Int Int (Int × Int))).a, (⟨(gx l_roads_here l_at_1).a, (gx l_roads_here l_at_1).b, (gx l_roads_here l_at_1).c⟩ : (T3 Int Int (Int × Int))).b, (⟨(gx l_roads_here l_at_1).a, (gx l_roads_here l_at_1).b, (gx l_roads_here l_at_1).c⟩ : (T3 Int Int (Int × Int))).c, l_long_1⟩ : (T4 Int Int (Int × Int) (Int × Int))).c, (⟨(⟨(gx l_roads_here l_at_1).a, (gx l_roads_here l_at_1).b, (gx l_roads_here l_at_1).c⟩ : (T3 Int Int (Int × Int))).a, (⟨(gx l_roads_here l_at_1).a, (gx l_roads_here l_at_1).b, (gx l_roads_here l_at_1).c⟩ : (T3 Int Int (Int × Int))).b, (⟨(gx l_roads_here l_at_1).a, (gx l_roads_here l_at_1).b, (gx l_roads_here l_at_1).c⟩ : (T3 Int Int (Int × Int))).c, l_long_1⟩ : (T4 Int Int (Int × Int) (Int × Int))).d, (gx l_roads_here l_at_1).e⟩ : (T5 Int Int (Int × Int) (Int × Int) Bool))] : (List (T5 Int Int (Int × Int) (Int × Int) Bool)))) (dn_lst (da_cons (deC (y := (.tuple [(.int (⟨((gx l_roads_here l_at_1).a, (gx l_roads_here l_at_1).b).1, ((gx l_roads_here l_at_1).a, (gx l_roads_here l_at_1).b).2, l_long_1⟩ : (T3 Int Int (Int × Int))).a), (.int (⟨((gx l_roads_here l_at_1).a, (gx l_roads_here l_at_1).b).1, ((gx l_roads_here l_at_1).a, (gx l_roads_here l_at_1).b).2, l_long_1⟩ : (T3 Int Int (Int × Int))).b), ((eP PyData.int PyData.int) (⟨((gx l_roads_here l_at_1).a, (gx l_roads_here l_at_1).b).1, ((gx l_roads_here l_at_1).a, (gx l_roads_here l_at_1).b).2, l_long_1⟩ : (T3 Int Int (Int × Int))).c), ((eP PyData.int PyData.int) ((gx l_roads_here l_at_1).d, (gx l_roads_here l_at_1).e).1), (.bool ((gx l_roads_here l_at_1).d, (gx l_roads_here l_at_1).e).2)])) rfl (de_catT (xs := [(.int (⟨((gx l_roads_here l_at_1).a, (gx l_roads_here l_at_1).b).1, ((gx l_roads_here l_at_1).a, (gx l_roads_here l_at_1).b).2, l_long_1⟩ : (T3 Int Int (Int × Int))).a), (.int (⟨((gx l_roads_here l_at_1).a, (gx l_roads_here l_at_1).b).1, ((gx l_roads_here l_at_1).a, (gx l_roads_here l_at_1).b).2, l_long_1⟩ : (T3 Int Int (Int × Int))).b), ((eP PyData.int PyData.int) (⟨((gx l_roads_here l_at_1).a, (gx l_roads_here l_at_1).b).1, ((gx l_roads_here l_at_1).a, (gx l_roads_here l_at_1).b).2, l_long_1⟩ : (T3 Int Int (Int × Int))).c)]) (ys := [((eP PyData.int PyData.int) ((gx l_roads_here l_at_1).d, (gx l_roads_here l_at_1).e).1), (.bool ((gx l_roads_here l_at_1).d, (gx l_roads_here l_at_1).e).2)]) (deC (y := (.tuple [(.int ((gx l_roads_here l_at_1).a, (gx l_roads_here l_at_1).b).1), (.int ((gx l_roads_here l_at_1).a, (gx l_roads_here l_at_1).b).2), ((eP PyData.int PyData.int) l_long_1)])) rfl (de_catT (xs := [(.int ((gx l_roads_here l_at_1).a, (gx l_roads_here l_at_1).b).1), (.int ((gx l_roads_here l_at_1).a, (gx l_roads_here l_at_1).b).2)]) (ys := [((eP PyData.int PyData.int) l_long_1)]) (de_cut52 (de_ixL (f := (eT5 PyData.int PyData.int (eP PyData.int PyData.int) (eP PyData.int PyData.int) PyData.bool)) (xs := l_roads_here) (i := l_at_1) (de_v 2 (pv 2)) (de_v 5 (pv 5)) (by first | exact ⟨by omega, by omega⟩ | (first | exact ⟨by omega, by omega⟩ | exact inR_mod (by omega) | (unfold inR; simp only [List.length_map, List.length_append, List.length_cons, List.length_nil, List.length_replicate, rng_len, sx_len]; omega)))) de_int) (de_tup (da_cons (de_v 6 (pv 6)) da_nil)))) (deC (y := .tuple [((eP PyData.int PyData.int) (gx l_roads_here l_at_1).d), (.bool (gx l_roads_here l_at_1).e)]) rfl (de_cutT (xs := [(.int (gx l_roads_here l_at_1).a), (.int (gx l_roads_here l_at_1).b), ((eP PyData.int PyData.int) (gx l_roads_here l_at_1).c), ((eP PyData.int PyData.int) (gx l_roads_here l_at_1).d), (.bool (gx l_roads_here l_at_1).e)]) (de_ixL (f := (eT5 PyData.int PyData.int (eP PyData.int PyData.int) (eP PyData.int PyData.int) PyData.bool)) (xs := l_roads_here) (i := l_at_1) (de_v 2 (pv 2)) (de_v 5 (pv 5)) (by first | exact ⟨by omega, by omega⟩ | (first | exact ⟨by omega, by omega⟩ | exact inR_mod (by omega) | (unfold inR; simp only [List.length_map, List.length_append, List.length_cons, List.length_nil, List.length_replicate, rng_len, sx_len]; omega)))) (do_som de_int) do_non (by show ¬ (HT.sIx 5 0 (some 3) = 0 ∧ HT.sIx 5 5 none = 5); decide))))) (da_cons (deC (y := (.tuple [(.int (⟨(⟨(gx l_roads_here l_at_1).a, (gx l_roads_here l_at_1).b, (gx l_roads_here l_at_1).c⟩ : (T3 Int Int (Int × Int))).a, (⟨(gx l_roads_here l_at_1).a, (gx l_roads_here l_at_1).b, (gx l_roads_here l_at_1).c⟩ : (T3 Int Int (Int × Int))).b, (⟨(gx l_roads_here l_at_1).a, (gx l_roads_here l_at_1).b, (gx l_roads_here l_at_1).c⟩ : (T3 Int Int (Int × Int))).c, l_long_1⟩ : (T4 Int Int (Int × Int) (Int × Int))).a), (.int (⟨(⟨(gx l_roads_here l_at_1).a, (gx l_roads_here l_at_1).b, (gx l_roads_here l_at_1).c⟩ : (T3 Int Int (Int × Int))).a, (⟨(gx l_roads_here l_at_1).a, (gx l_roads_here l_at_1).b, (gx l_roads_here l_at_1).c⟩ : (T3 Int Int (Int × Int))).b, (⟨(gx l_roads_here l_at_1).a, (gx l_roads_here l_at_1).b, (gx l_roads_here l_at_1).c⟩ : (T3 Int Int (Int × Int))).c, l_long_1⟩ : (T4 Int Int (Int × Int) (Int × Int))).b), ((eP PyData.int PyData.int) (⟨(⟨(gx l_roads_here l_at_1).a, (gx l_roads_here l_at_1).b, (gx l_roads_here l_at_1).c⟩ : (T3 Int Int (Int × Int))).a, (⟨(gx l_roads_here l_at_1).a, (gx l_roads_here l_at_1).b, (gx l_roads_here l_at_1).c⟩ : (T3 Int Int (Int × Int))).b, (⟨(gx l_roads_here l_at_1).a, (gx l_roads_here l_at_1).b, (gx l_roads_here l_at_1).c⟩ : (T3 Int Int (Int × Int))).c, l_long_1⟩ : (T4 Int Int (Int × Int) (Int × Int))).c), ((eP PyData.int PyData.int) (⟨(⟨(gx l_roads_here l_at_1).a, (gx l_roads_here l_at_1).b, (gx l_roads_here l_at_1).c⟩ : (T3 Int Int (Int × Int))).a, (⟨(gx l_roads_here l_at_1).a, (gx l_roads_here l_at_1).b, (gx l_roads_here l_at_1).c⟩ : (T3 Int Int (Int × Int))).b, (⟨(gx l_roads_here l_at_1).a, (gx l_roads_here l_at_1).b, (gx l_roads_here l_at_1).c⟩ : (T3 Int Int (Int × Int))).c, l_long_1⟩ : (T4 Int Int (Int × Int) (Int × Int))).d), (.bool (gx l_roads_here l_at_1).e)])) rfl (de_catT (xs := [(.int (⟨(⟨(gx l_roads_here l_at_1).a, (gx l_roads_here l_at_1).b, (gx l_roads_here l_at_1).c⟩ : (T3 Int Int (Int × Int))).a, (⟨(gx l_roads_here l_at_1).a, (gx l_roads_here l_at_1).b, (gx l_roads_here l_at_1).c⟩ : (T3 Int Int (Int × Int))).b, (⟨(gx l_roads_here l_at_1).a, (gx l_roads_here l_at_1).b, (gx l_roads_here l_at_1).c⟩ : (T3 Int Int (Int × Int))).c, l_long_1⟩ : (T4 Int Int (Int × Int) (Int × Int))).a), (.int (⟨(⟨(gx l_roads_here l_at_1).a, (gx l_roads_here l_at_1).b, (gx l_roads_here l_at_1).c⟩ : (T3 Int Int (Int × Int))).a, (⟨(gx l_roads_here l_at_1).a, (gx l_roads_here l_at_1).b, (gx l_roads_here l_at_1).c⟩ : (T3 Int Int (Int × Int))).b, (⟨(gx l_roads_here l_at_1).a, (gx l_roads_here l_at_1).b, (gx l_roads_here l_at_1).c⟩ : (T3 Int Int (Int × Int))).c, l_long_1⟩ : (T4 Int Int (Int × Int) (Int × Int))).b), ((eP PyData.int PyData.int) (⟨(⟨(gx l_roads_here l_at_1).a, (gx l_roads_here l_at_1).b, (gx l_roads_here l_at_1).c⟩ : (T3 Int Int (Int × Int))).a, (⟨(gx l_roads_here l_at_1).a, (gx l_roads_here l_at_1).b, (gx l_roads_here l_at_1).c⟩ : (T3 Int Int (Int × Int))).b, (⟨(gx l_roads_here l_at_1).a, (gx l_roads_here l_at_1).b, (gx l_roads_here l_at_1).c⟩ : (T3 Int Int (Int × Int))).c, l_long_1⟩ : (T4 Int Int (Int × Int) (Int × Int))).c), ((eP PyData.int PyData.int) (⟨(⟨(gx l_roads_here l_at_1).a, (gx l_roads_here l_at_1).b, (gx l_roads_here l_at_1).c⟩ : (T3 Int Int (Int × Int))).a, (⟨(gx l_roads_here l_at_1).a, (gx l_roads_here l_at_1).b, (gx l_roads_here l_at_1).c⟩ : (T3 Int Int (Int × Int))).b, (⟨(gx l_roads_here l_at_1).a, (gx l_roads_here l_at_1).b, (gx l_roads_here l_at_1).c⟩ : (T3 Int Int (Int × Int))).c, l_long_1⟩ : (T4 Int Int (Int × Int) (Int × Int))).d)]) (ys := [(.bool (gx l_roads_here l_at_1).e)]) (deC (y := (.tuple [(.int (⟨(gx l_roads_here l_at_1).a, (gx l_roads_here l_at_1).b, (gx l_roads_here l_at_1).c⟩ : (T3 Int Int (Int × Int))).a), (.int (⟨(gx l_roads_here l_at_1).a, (gx l_roads_here l_at_1).b, (gx l_roads_here l_at_1).c⟩ : (T3 Int Int (Int × Int))).b), ((eP PyData.int PyData.int) (⟨(gx l_roads_here l_at_1).a, (gx l_roads_here l_at_1).b, (gx l_roads_here l_at_1).c⟩ : (T3 Int Int (Int × Int))).c), ((eP PyData.int PyData.int) l_long_1)])) rfl (de_catT (xs := [(.int (⟨(gx l_roads_here l_at_1).a, (gx l_roads_here l_at_1).b, (gx l_roads_here l_at_1).c⟩ : (T3 Int Int (Int × Int))).a), (.int (⟨(gx l_roads_here l_at_1).a, (gx l_roads_here l_at_1).b, (gx l_roads_here l_at_1).c⟩ : (T3 Int Int (Int × Int))).b), ((eP PyData.int PyData.int) (⟨(gx l_roads_here l_at_1).a, (gx l_roads_here l_at_1).b, (gx l_roads_here l_at_1).c⟩ : (T3 Int Int (Int × Int))).c)]) (ys := [((eP PyData.int PyData.int) l_long_1)]) (deC (y := .tuple [(.int (gx l_roads_here l_at_1).a), (.int (gx l_roads_here l_at_1).b), ((eP PyData.int PyData.int) (gx l_roads_here l_at_1).c)]) rfl (de_cutT (xs := [(.int (gx l_roads_here l_at_1).a), (.int (gx l_roads_here l_at_1).b), ((eP PyData.int PyData.int) (gx l_roads_here l_at_1).c), ((eP PyData.int PyData.int) (gx l_roads_here l_at_1).d), (.bool (gx l_roads_here l_at_1).e)]) (de_ixL (f := (eT5 PyData.int PyData.int (eP PyData.int PyData.int) (eP PyData.int PyData.int) PyData.bool)) (xs := l_roads_here) (i := l_at_1) (de_v 2 (pv 2)) (de_v 5 (pv 5)) (by first | exact ⟨by omega, by omega⟩ | (first | exact ⟨by omega, by omega⟩ | exact inR_mod (by omega) | (unfold inR; simp only [List.length_map, List.length_append, List.length_cons, List.length_nil, List.length_replicate, rng_len, sx_len]; omega)))) do_non (do_som de_int) (by show ¬ (HT.sIx 5 0 none = 0 ∧ HT.sIx 5 5 (some 3) = 5); decide))) (de_tup (da_cons (de_v 6 (pv 6)) da_nil)))) (deC (y := .tuple [(.bool (gx l_roads_here l_at_1).e)]) rfl (de_cutT (xs := [(.int (gx l_roads_here l_at_1).a), (.int (gx l_roads_here l_at_1).b), ((eP PyData.int PyData.int) (gx l_roads_here l_at_1).c), ((eP PyData.int PyData.int) (gx l_roads_here l_at_1).d), (.bool (gx l_roads_here l_at_1).e)]) (de_ixL (f := (eT5 PyData.int PyData.int (eP PyData.int PyData.int) (eP PyData.int PyData.int) PyData.bool)) (xs := l_roads_here) (i := l_at_1) (de_v 2 (pv 2)) (de_v 5 (pv 5)) (by first | exact ⟨by omega, by omega⟩ | (first | exact ⟨by omega, by omega⟩ | exact inR_mod (by omega) | (unfold inR; simp only [List.length_map, List.length_append, List.length_cons, List.length_nil, List.length_replicate, rng_len, sx_len]; omega)))) (do_som de_int) do_non (by show ¬ (HT.sIx 5 0 (some 4) = 0 ∧ HT.sIx 5 5 none = 5); decide))))) da_nil)))) (de_mod (de_div (de_v 4 (pv 4)) de_int ⟨by decide, by decide⟩) de_int (by decide)) (by first | exact ⟨by omega, by omega⟩ | (first | exact ⟨by omega, by omega⟩ | exact inR_mod (by omega) | (unfold inR; simp only [List.length_map, List.length_append, List.length_cons, List.length_nil, List.length_replicate, rng_len, sx_len]; omega)))) (de_v 5 (pv 5)) rfl (by first | exact ⟨by omega, by omega⟩ | (first | exact ⟨by omega, by omega⟩ | exact inR_mod (by omega) | (unfold inR; simp only [List.length_map, List.length_append, List.length_cons, List.length_nil, List.length_replicate, rng_len, sx_len]; omega))) (by subst e_l_wide_1; rfl)) ?_
  try (have hw : l_wide_1 = lgW l_number_here_1 l_roads_here := by rw [e_l_wide_1, e_l_long_1, hat]; rfl)
  refine ds_freezeL 7 (E' := [.v ((eL PyData.int) l_script), .v (.int l_many_here), .v ((eL (eT5 PyData.int PyData.int (eP PyData.int PyData.int) (eP PyData.int PyData.int) PyData.bool)) l_roads_here), .v ((eL (eT4 PyData.int PyData.int (eP PyData.int PyData.int) PyData.bool)) l_wishes_here), .v (.int l_number_here_1), .v (.int l_at_1), .v ((eP PyData.int PyData.int) l_long_1), .v ((eL (eT5 PyData.int PyData.int (eP PyData.int PyData.int) (eP PyData.int PyData.int) PyData.bool)) l_wide_1), .no, .no, .no]) rfl rfl ?_
  obtain ⟨l_text_1, e_l_text_1⟩ : ∃ z : PySem.Str, z = (m_l_words l_many_here l_wide_1 l_wishes_here) := ⟨_, rfl⟩
  refine ds_then (E' := [.v ((eL PyData.int) l_script), .v (.int l_many_here), .v ((eL (eT5 PyData.int PyData.int (eP PyData.int PyData.int) (eP PyData.int PyData.int) PyData.bool)) l_roads_here), .v ((eL (eT4 PyData.int PyData.int (eP PyData.int PyData.int) PyData.bool)) l_wishes_here), .v (.int l_number_here_1), .v (.int l_at_1), .v ((eP PyData.int PyData.int) l_long_1), .v ((eL (eT5 PyData.int PyData.int (eP PyData.int PyData.int) (eP PyData.int PyData.int) PyData.bool)) l_wide_1), .v (.str l_text_1), .no, .no]) (ds_set (x := (.str l_text_1)) (ln 8 sc_l_longer.nd) (deC (by subst e_l_text_1; rfl) (de_call (f := "_law_words") (c_l_words.at hr) rfl (da_cons (de_v 1 (pv 1)) (da_cons (de_v 7 (pv 7)) (da_cons (de_v 3 (pv 3)) da_nil))) ⟨l_many_here, l_wide_1, l_wishes_here, (by first | omega | assumption | (rw [hw]; exact hlo.1) | (show NtS _ l_wide_1 _; rw [hw]; exact hlo.1) | (rw [htx]; exact words_len hlo.1) | (rw [htx]; exact hlo.2.2) | decide), rfl, rfl⟩))) ?_
  have htx : l_text_1 = m_l_words l_many_here (lgW l_number_here_1 l_roads_here) l_wishes_here := by rw [e_l_text_1, hw]
  refine ds_ifr (dt_not (dt_val (de_call (f := "_law_shown") (c_l_shown.at hr) rfl (da_cons (DN.toPL (f := PyData.int) (g := (eT5 PyData.int PyData.int (eP PyData.int PyData.int) (eP PyData.int PyData.int) PyData.bool)) (v := (l_many_here, l_wide_1)) (dn_pair (f := PyData.int) (g := (eT5 PyData.int PyData.int (eP PyData.int PyData.int) (eP PyData.int PyData.int) PyData.bool)) (x := l_many_here) (ys := l_wide_1) (de_v 1 (pv 1)) (dn_listL (de_v 7 (pv 7)) rfl T.b_list))) (da_cons (DN.toL (f := (eT4 PyData.int PyData.int (eP PyData.int PyData.int) PyData.bool)) (xs := l_wishes_here) (dn_listL (de_v 3 (pv 3)) rfl T.b_list)) (da_cons (de_v 8 (pv 8)) da_nil))) ⟨(l_many_here, l_wide_1), l_wishes_here, l_text_1, (by first | omega | assumption | (rw [hw]; exact hlo.1) | (show NtS _ l_wide_1 _; rw [hw]; exact hlo.1) | (rw [htx]; exact words_len hlo.1) | (rw [htx]; exact hlo.2.2) | decide), rfl, rfl⟩))) (fun c_1 => ?_) (fun c_1 => ?_)
  · have q_c_1 := c_1
    try simp only [eqD_t, eqD_f, decide_eq_true_eq, decide_eq_false_iff_not, Bool.not_eq_true', Bool.not_eq_false', Bool.and_eq_true, Bool.or_eq_true, Bool.and_eq_false_iff, Bool.or_eq_false_iff, Bool.not_true, Bool.not_false, Bool.not_not, Decidable.not_not] at q_c_1
    exact ds_retD de_bl (.inl (by subst e_l_number_here_1 e_l_at_1 e_l_long_1 e_l_wide_1 e_l_text_1; first | (simp only [m_l_longer, c_1, cond_true, cond_false, Bool.not_true, Bool.not_false, goM, goN]; first | done | rfl) | (simp only [m_l_longer]; rw [c_1]; first | done | rfl) | (simp only [m_l_longer]; (try dsimp only at c_1); (try simp only [c_1, cond_true, cond_false, Bool.not_true, Bool.not_false, goM, goN]); first | done | rfl)))
  have q_c_1 := c_1
  try simp only [eqD_t, eqD_f, decide_eq_true_eq, decide_eq_false_iff_not, Bool.not_eq_true', Bool.not_eq_false', Bool.and_eq_true, Bool.or_eq_true, Bool.and_eq_false_iff, Bool.or_eq_false_iff, Bool.not_true, Bool.not_false, Bool.not_not, Decidable.not_not] at q_c_1
  obtain ⟨l_part_1, e_l_part_1⟩ : ∃ z : (Option Int), z = (none : (Option Int)) := ⟨_, rfl⟩
  refine ds_then (E' := [.v ((eL PyData.int) l_script), .v (.int l_many_here), .v ((eL (eT5 PyData.int PyData.int (eP PyData.int PyData.int) (eP PyData.int PyData.int) PyData.bool)) l_roads_here), .v ((eL (eT4 PyData.int PyData.int (eP PyData.int PyData.int) PyData.bool)) l_wishes_here), .v (.int l_number_here_1), .v (.int l_at_1), .v ((eP PyData.int PyData.int) l_long_1), .v ((eL (eT5 PyData.int PyData.int (eP PyData.int PyData.int) (eP PyData.int PyData.int) PyData.bool)) l_wide_1), .v (.str l_text_1), .v ((eO PyData.int) l_part_1), .no]) (ds_set (x := ((eO PyData.int) l_part_1)) (ln 9 sc_l_longer.nd) (deC (by subst e_l_part_1; rfl) de_non)) ?_
  obtain ⟨l_part_2, e_l_part_2⟩ : ∃ z : (Option Int), z = (exP (m_read_net l_text_1)) := ⟨_, rfl⟩
  refine ds_then (E' := [.v ((eL PyData.int) l_script), .v (.int l_many_here), .v ((eL (eT5 PyData.int PyData.int (eP PyData.int PyData.int) (eP PyData.int PyData.int) PyData.bool)) l_roads_here), .v ((eL (eT4 PyData.int PyData.int (eP PyData.int PyData.int) PyData.bool)) l_wishes_here), .v (.int l_number_here_1), .v (.int l_at_1), .v ((eP PyData.int PyData.int) l_long_1), .v ((eL (eT5 PyData.int PyData.int (eP PyData.int PyData.int) (eP PyData.int PyData.int) PyData.bool)) l_wide_1), .v (.str l_text_1), .v ((eO PyData.int) l_part_2), .no]) (ds_tryPart (A := A) (B := fun o => match (m_read_net l_text_1) with | .ok v => o = .nx [.v ((eL PyData.int) l_script), .v (.int l_many_here), .v ((eL (eT5 PyData.int PyData.int (eP PyData.int PyData.int) (eP PyData.int PyData.int) PyData.bool)) l_roads_here), .v ((eL (eT4 PyData.int PyData.int (eP PyData.int PyData.int) PyData.bool)) l_wishes_here), .v (.int l_number_here_1), .v (.int l_at_1), .v ((eP PyData.int PyData.int) l_long_1), .v ((eL (eT5 PyData.int PyData.int (eP PyData.int PyData.int) (eP PyData.int PyData.int) PyData.bool)) l_wide_1), .v (.str l_text_1), .v ((eO PyData.int) l_part_1), .no] | .error em => o = .ex (A em.c) (flE em) [.v ((eL PyData.int) l_script), .v (.int l_many_here), .v ((eL (eT5 PyData.int PyData.int (eP PyData.int PyData.int) (eP PyData.int PyData.int) PyData.bool)) l_roads_here), .v ((eL (eT4 PyData.int PyData.int (eP PyData.int PyData.int) PyData.bool)) l_wishes_here), .v (.int l_number_here_1), .v (.int l_at_1), .v ((eP PyData.int PyData.int) l_long_1), .v ((eL (eT5 PyData.int PyData.int (eP PyData.int PyData.int) (eP PyData.int PyData.int) PyData.bool)) l_wide_1), .v (.str l_text_1), .v ((eO PyData.int) l_part_1), .no]) C (ln 10 sc_l_longer.nd) (ln 9 sc_l_longer.nd) rfl rfl rfl ⟨rfl, by decide, .inl T.g_NoText⟩ rfl (by decide) (Nat.le_of_ble_eq_true rfl) (Nat.le_of_ble_eq_true rfl) (fun _ _ _ _ => pv 10) (fun _ _ _ => rfl) (fun _ _ _ => rfl) (fun W1 pn1 xe1 C1 => ?_) (fun o ho => ?_)) ?_
  · cases hg : (m_read_net l_text_1) with
    | ok v => exact ds_last (DS.imp (ds_expr (DN.toE (dn_call (f := "read_net") (t := (oTN PyData.int (eT5 PyData.int PyData.int (eP PyData.int PyData.int) (eP PyData.int PyData.int) PyData.bool) (eT4 PyData.int PyData.int (eP PyData.int PyData.int) PyData.bool)) v) (c_read_net.at hr) rfl (da_cons (de_v 8 (pv 8)) da_nil) ⟨l_text_1, (by first | omega | assumption | (rw [hw]; exact hlo.1) | (show NtS _ l_wide_1 _; rw [hw]; exact hlo.1) | (rw [htx]; exact words_len hlo.1) | (rw [htx]; exact hlo.2.2) | decide), (by first | omega | assumption | (rw [hw]; exact hlo.1) | (show NtS _ l_wide_1 _; rw [hw]; exact hlo.1) | (rw [htx]; exact words_len hlo.1) | (rw [htx]; exact hlo.2.2) | decide), rfl, by rw [hg]; rfl⟩)) (P := fun _ => False)) fun o h => by cases o <;> first | exact congrArg _ h | exact h.elim)
    | error em => show DSs _ _ _ _ (fun o => o = Out.ex (A em.c) (flE em) [.v ((eL PyData.int) l_script), .v (.int l_many_here), .v ((eL (eT5 PyData.int PyData.int (eP PyData.int PyData.int) (eP PyData.int PyData.int) PyData.bool)) l_roads_here), .v ((eL (eT4 PyData.int PyData.int (eP PyData.int PyData.int) PyData.bool)) l_wishes_here), .v (.int l_number_here_1), .v (.int l_at_1), .v ((eP PyData.int PyData.int) l_long_1), .v ((eL (eT5 PyData.int PyData.int (eP PyData.int PyData.int) (eP PyData.int PyData.int) PyData.bool)) l_wide_1), .v (.str l_text_1), .v ((eO PyData.int) l_part_1), .no]); exact ds_exprE (X := Cx.tr _ pn1 xe1) (E := [.v ((eL PyData.int) l_script), .v (.int l_many_here), .v ((eL (eT5 PyData.int PyData.int (eP PyData.int PyData.int) (eP PyData.int PyData.int) PyData.bool)) l_roads_here), .v ((eL (eT4 PyData.int PyData.int (eP PyData.int PyData.int) PyData.bool)) l_wishes_here), .v (.int l_number_here_1), .v (.int l_at_1), .v ((eP PyData.int PyData.int) l_long_1), .v ((eL (eT5 PyData.int PyData.int (eP PyData.int PyData.int) (eP PyData.int PyData.int) PyData.bool)) l_wide_1), .v (.str l_text_1), .v ((eO PyData.int) l_part_1), .no]) (P := fun o => o = Out.ex (A em.c) (flE em) [.v ((eL PyData.int) l_script), .v (.int l_many_here), .v ((eL (eT5 PyData.int PyData.int (eP PyData.int PyData.int) (eP PyData.int PyData.int) PyData.bool)) l_roads_here), .v ((eL (eT4 PyData.int PyData.int (eP PyData.int PyData.int) PyData.bool)) l_wishes_here), .v (.int l_number_here_1), .v (.int l_at_1), .v ((eP PyData.int PyData.int) l_long_1), .v ((eL (eT5 PyData.int PyData.int (eP PyData.int PyData.int) (eP PyData.int PyData.int) PyData.bool)) l_wide_1), .v (.str l_text_1), .v ((eO PyData.int) l_part_1), .no]) (f := "read_net") C1 (c_read_net.at hr) rfl (da_cons (de_v 8 (pv 8)) da_nil) ⟨l_text_1, (by first | omega | assumption | (rw [hw]; exact hlo.1) | (show NtS _ l_wide_1 _; rw [hw]; exact hlo.1) | (rw [htx]; exact words_len hlo.1) | (rw [htx]; exact hlo.2.2) | decide), (by first | omega | assumption | (rw [hw]; exact hlo.1) | (show NtS _ l_wide_1 _; rw [hw]; exact hlo.1) | (rw [htx]; exact words_len hlo.1) | (rw [htx]; exact hlo.2.2) | decide), rfl, by rw [hg]; rfl⟩ ⟨em, rfl⟩ rfl
  · cases hg : (m_read_net l_text_1) with
    | ok v => rw [hg] at ho; cases (show o = _ from ho); show _ = _; (subst e_l_number_here_1 e_l_at_1 e_l_long_1 e_l_wide_1 e_l_text_1 e_l_part_1 e_l_part_2); rw [hg]; rfl
    | error em => have e9 : em.c = 9 := read_net_codes hg; rw [hg] at ho; cases (show o = _ from ho); exact ⟨em, e9, by rw [e9]; exact T.no_part, rfl, rfl, rfl, by rw [e9]; exact T.xm_part, T.ek em.c (by rw [e9]; unfold Cd; decide), by show _ = _; (subst e_l_number_here_1 e_l_at_1 e_l_long_1 e_l_wide_1 e_l_text_1 e_l_part_1 e_l_part_2); rw [hg]; rfl⟩
  exact ds_retD (de_and (de_call (f := "_law_whole") (c_l_whole.at hr) rfl (da_cons (de_v 9 (pv 9)) da_nil) ⟨((eO PyData.int) l_part_2), rfl, rfl⟩) (fun h_1 => by have q := h_1; (try simp only [eqD_t, eqD_f, decide_eq_true_eq, decide_eq_false_iff_not, Bool.not_eq_true', Bool.not_eq_false', Bool.and_eq_true, Bool.or_eq_true, Bool.and_eq_false_iff, Bool.or_eq_false_iff, Bool.not_true, Bool.not_false, Bool.not_not, Decidable.not_not] at q); exact (de_one (de_eqI (de_unO (f := PyData.int) (o := l_part_2) (de_v 9 (pv 9)) (by exact whole_some (by assumption))) (de_add (de_v 5 (pv 5)) de_int))))) (.inl (by subst e_l_number_here_1 e_l_at_1 e_l_long_1 e_l_wide_1 e_l_text_1 e_l_part_1 e_l_part_2; first | (simp only [m_l_longer, c_1, cond_true, cond_false, Bool.not_true, Bool.not_false, goM, goN]; first | done | rfl) | (simp only [m_l_longer]; rw [c_1]; first | done | rfl) | (simp only [m_l_longer]; (try dsimp only at c_1); (try simp only [c_1, cond_true, cond_false, Bool.not_true, Bool.not_false, goM, goN]); first | done | rfl)))
theorem longer_true {sc : List Int} {m : Int} {k : Nat} {ws : List Ws4} {rs : List Rd5} (hm : 2 ≤ m ∧ m ≤ 6) (hn : 1 ≤ k ∧ k ≤ 3) (hw : WtI m k ws) (hr : RgI m ws rs) : m_l_longer sc m rs ws = true := by
  obtain ⟨h1, h2, _⟩ := longer_ok (n := m_l_mixed sc 6) ⟨mixed_nn _ _, Int.emod_lt_of_pos _ (by decide)⟩ hm hn hw hr
  have e : m_l_longer sc m rs ws = (bif (!(m_l_shown (m, lgW (m_l_mixed sc 6) rs) ws (m_l_words m (lgW (m_l_mixed sc 6) rs) ws))) then false else ((m_l_whole ((eO PyData.int) (exP (m_read_net (m_l_words m (lgW (m_l_mixed sc 6) rs) ws))))) && decide ((exP (m_read_net (m_l_words m (lgW (m_l_mixed sc 6) rs) ws))).getD default = lgA (m_l_mixed sc 6) rs + 1))) := rfl
  rw [e, shown_ok, h2]
  show (true && decide (lgA (m_l_mixed sc 6) rs + 1 = lgA (m_l_mixed sc 6) rs + 1)) = true
  rw [decide_eq_true rfl]
  rfl
abbrev othT (k : Int) : PySem.Str := ((("places 2; lane 0 1 " : PySem.Str) ++ (toString k : PySem.Str)) ++ (" 0; bus 0 1 1/2" : PySem.Str))
def othS : Nat → Int → PySem.Str
  | 0, k => othT k
  | _ + 1, k => othT k
theorem othS_eq (n : Nat) (k : Int) : othS n k = othT k := by cases n <;> rfl
abbrev eNW : (Int × List Rd5) × List Ws4 → PyData := eP (eP PyData.int (eL (eT5 PyData.int PyData.int (eP PyData.int PyData.int) (eP PyData.int PyData.int) PyData.bool))) (eL (eT4 PyData.int PyData.int (eP PyData.int PyData.int) PyData.bool))
theorem nice_rd (n : Nat) (r : Rd5) : nice (n + 3) ((eT5 PyData.int PyData.int (eP PyData.int PyData.int) (eP PyData.int PyData.int) PyData.bool) r) = true := rfl
theorem nice_ws (n : Nat) (r : Ws4) : nice (n + 3) ((eT4 PyData.int PyData.int (eP PyData.int PyData.int) PyData.bool) r) = true := rfl
theorem nice_all {α : Type} {f : α → PyData} {n : Nat} {xs : List α} (h : xs.length ≤ 1000) (hx : ∀ x ∈ xs, nice n (f x) = true) : nice (n + 1) (eL f xs) = true := by
  show (decide ((xs.map f).length ≤ 1000) && (xs.map f).all (nice n)) = true
  rw [Bool.and_eq_true, decide_eq_true_eq, List.length_map, List.all_eq_true]
  refine ⟨h, fun y hy => ?_⟩
  obtain ⟨x, h1, rfl⟩ := List.mem_map.mp hy
  exact hx x h1
theorem nice_due {m : Int} {rs : List Rd5} {ws : List Ws4} (h1 : rs.length ≤ 1000) (h2 : ws.length ≤ 1000) : nice 8 (eNW ((m, rs), ws)) = true := by
  have e1 := nice_all (f := (eT5 PyData.int PyData.int (eP PyData.int PyData.int) (eP PyData.int PyData.int) PyData.bool)) (n := 5) h1 fun x _ => nice_rd 2 x
  have e2 := nice_all (f := (eT4 PyData.int PyData.int (eP PyData.int PyData.int) PyData.bool)) (n := 6) h2 fun x _ => nice_ws 3 x
  show (true && ((true && (true && (nice 6 (eL (eT5 PyData.int PyData.int (eP PyData.int PyData.int) (eP PyData.int PyData.int) PyData.bool) rs) && true))) && (nice 7 (eL (eT4 PyData.int PyData.int (eP PyData.int PyData.int) PyData.bool) ws) && true))) = true
  rw [e1, e2]
  rfl
theorem nice_oth (k : Int) : nice 8 (eNW ((2, [rO k]), [wO])) = true := nice_due (by show 1 ≤ 1000; decide) (by show 1 ≤ 1000; decide)
theorem alike_seq {n : Nat} {x : PyData} (h : isSeq x = true) (ih : ∀ y, y ∈ elems x → mr_l_alike n y y = true) : mr_l_alike (n + 1) x x = true := by
  have hf : (rng 0 (D.pyLen x).toNat).filter (fun a => !(mr_l_alike n (gx (elems x) a) (gx (elems x) a))) = [] := by
    refine List.filter_eq_nil_iff.mpr fun a ha => ?_
    have hq := rng_mem ha
    rw [ih _ (gx_mem (inR_py hq.1 (by omega)))]
    exact fun z => Bool.noConfusion z
  unfold mr_l_alike
  rw [h, hf, decide_eq_true (rfl : isList x = isList x), decide_eq_true (rfl : D.pyLen x = D.pyLen x)]
  rfl
theorem alike_refl' : ∀ (n : Nat) (x : PyData), nice n x = true → mr_l_alike n x x = true
  | 0, x, h => Bool.noConfusion h
  | n + 1, .list xs, h => alike_seq rfl fun y hy => alike_refl' n y (nice_mem h hy)
  | n + 1, .tuple xs, h => alike_seq rfl fun y hy => alike_refl' n y (nice_mem h hy)
  | n + 1, .bool b, h => by cases b <;> rfl
  | n + 1, .int i, h => by
    show (true && (i == i)) = true
    rw [beq_self_eq_true]; rfl
  | n + 1, .none, h => Bool.noConfusion h
  | n + 1, .str s, h => Bool.noConfusion h
  | n + 1, .dict kvs, h => Bool.noConfusion h
theorem alike_refl (x : PyData) (h : nice 8 x = true) : m_l_alike x x = true := alike_refl' 8 x h
abbrev e5' : Rd5 → PyData := (eT5 PyData.int PyData.int (eP PyData.int PyData.int) (eP PyData.int PyData.int) PyData.bool)
abbrev e4' : Ws4 → PyData := (eT4 PyData.int PyData.int (eP PyData.int PyData.int) PyData.bool)
theorem fin_tail (ws : List Ws4) : noDicts (ws.map e4' ++ [.int 1]) = true ∧ PyData.canLayAll0 (ws.map e4' ++ [.int 1]) = true ∧ PyData.depthAll (ws.map e4' ++ [.int 1]) ≤ 5 := by
  have hE := eqE_T4 eqE_int eqE_int (eqE_P eqE_int eqE_int) eqE_bool
  induction ws with
  | nil => exact ⟨rfl, rfl, by decide⟩
  | cons w ws ih =>
    obtain ⟨h1, h2, h3⟩ := ih
    have hd : (e4' w).depth ≤ 2 := hE.dep w
    refine ⟨?_, ?_, ?_⟩
    · show (noDict (e4' w) && noDicts (ws.map e4' ++ [.int 1])) = true
      rw [hE.nd, h1]; rfl
    · show (PyData.canLay0 (e4' w) && PyData.canLayAll0 (ws.map e4' ++ [.int 1])) = true
      rw [hE.lay, h2]; rfl
    · show max (PyData.depth (e4' w)) (PyData.depthAll (ws.map e4' ++ [.int 1])) ≤ 5
      omega
def finD (m : Int) (ws : List Ws4) : PyData := .tuple [.tuple [.int m, .list []], .list (ws.map e4' ++ [.int 1])]
theorem fin_ok (m : Int) (ws : List Ws4) : noDict (finD m ws) = true ∧ SeqAt.shaped (finD m ws) = true ∧ PyData.eqv (finD m ws) (finD m ws) = true := by
  obtain ⟨h1, h2, h3⟩ := fin_tail ws
  have s1 : SeqAt.shaped (finD m ws) = true := by
    unfold SeqAt.shaped
    have e1 : (finD m ws).canLay0 = true := by
      show ((true && (true && true)) && (PyData.canLayAll0 (ws.map e4' ++ [.int 1]) && true)) = true
      rw [h2]; rfl
    have e2 : (finD m ws).depth ≤ 64 := by
      show max (max 0 (max (0 + 1) 0) + 1) (max (PyData.depthAll (ws.map e4' ++ [.int 1]) + 1) 0) + 1 ≤ 64
      omega
    rw [e1, decide_eq_true e2]; rfl
  refine ⟨?_, s1, SeqAt.eqv_refl _ (SeqAt.canLay_of_shaped s1)⟩
  show ((true && (true && true)) && (noDicts (ws.map e4' ++ [.int 1]) && true)) = true
  rw [h1]; rfl
theorem fin_a (m : Int) (ws : List Ws4) : (eP (eP PyData.int (eL e5')) (eL eA)) ((m, ([] : List Rd5)), ws.map e4' ++ [.int 1]) = finD m ws := by
  show PyData.tuple [.tuple [.int m, .list []], .list ((ws.map e4' ++ [PyData.int 1]).map fun x => x)] = _
  rw [List.map_id']; rfl
theorem fin_b (m : Int) (ws : List Ws4) : (eP (eP PyData.int (eL eA)) (eL eA)) ((m, ([] : List PyData)), ws.map e4' ++ ([(1 : Int)] : List Int).map PyData.int) = finD m ws := by
  show PyData.tuple [.tuple [.int m, .list []], .list ((ws.map e4' ++ [PyData.int 1]).map fun x => x)] = _
  rw [List.map_id']; rfl
section
variable {m : Int} {rs : List Rd5} {ws : List Ws4} {f d a : (Int × List Rd5) × List Ws4} {t : PySem.Str}
theorem law_c1 (hf : f = ((m, rs), ws)) (hd : d = ((m, rs), ws)) (ht : t = m_l_words m rs ws) (hn : nice 8 (eNW ((m, rs), ws)) = true) (c : ((!(m_l_alike (eNW f) (eNW d))) || (!(m_l_shown f.1 f.2 t))) = true) : False := by
  rw [hf, hd, ht, alike_refl _ hn, shown_ok] at c
  exact Bool.noConfusion c
theorem law_c2 {k : Int} (hf : f = ((2, [rO k]), [wO])) (c : (!(m_l_alike (eNW f) (eNW ((2, [rO k]), [wO])))) = true) : False := by
  rw [hf, alike_refl _ (nice_oth k)] at c
  exact Bool.noConfusion c
theorem law_c3 {h : List Rd5 × List Ws4} (hh : h = (rs, ws)) (ht : t = m_l_words m rs ws) (c : ((!(m_l_shown (m, h.1) h.2 t)) || (!eqD h (rs, ws))) = true) : False := by
  rw [hh, ht, shown_ok, eqD_self] at c
  exact Bool.noConfusion c
theorem law_c4 {q : (Int × List Rd5) × List PyData} (ha : a = ((m, rs), ws)) (hd : d = ((m, rs), ws)) (hn : nice 8 (eNW ((m, rs), ws)) = true) (hq : q = ((m, ([] : List Rd5)), ws.map e4' ++ [.int 1])) (c : ((!(m_l_alike (eNW a) (eNW d))) || (!PyData.eqv ((eP (eP PyData.int (eL e5')) (eL eA)) q) ((eP (eP PyData.int (eL eA)) (eL eA)) ((m, ([] : List PyData)), ws.map e4' ++ ([(1 : Int)] : List Int).map PyData.int)))) = true) : False := by
  rw [ha, hd, hq, alike_refl _ hn, fin_a, fin_b, (fin_ok m ws).2.2] at c
  exact Bool.noConfusion c
end
def m_law (l_script : (List Int)) : Bool := true
def r_law (xs : List PyData) (r : Res) : Prop := ∃ (l_script : (List Int)), (l_script.length ≤ 63) ∧ xs = [((eL PyData.int) l_script)] ∧ r = .v (.bool (m_law l_script))
abbrev N_law : List Str := ["_law_script", "_law_many_here", "_law_wishes_here", "_law_roads_here", "_law_text", "_law_due", "_law_first", "_law_number_here", "_law_other", "_law_handed", "_law_again"]
theorem sc_law : FnScope N_law ["_law_script"] (defScope s_law) := ⟨rfl, rfl, rfl, by decide +kernel, rfl, by decide +kernel, by decide +kernel⟩
theorem ok_law {g : Addr} {fd : FuncData} (F : Fun K "law" "law" s_law g fd) (T : Txt K mg A) (c_read_net : Cal P w K mg base "read_net" 1 (r_read_net A) 6) (c_l_cell : Cal P w K mg base "_law_cell" 2 r_l_cell 1) (c_l_mixed : Cal P w K mg base "_law_mixed" 2 r_l_mixed 2) (c_l_wishes : Cal P w K mg base "_law_wishes" 2 r_l_wishes 4) (c_l_roads : Cal P w K mg base "_law_roads" 3 r_l_roads 6) (c_l_words : Cal P w K mg base "_law_words" 3 r_l_words 2) (c_l_alike : Cal P w K mg base "_law_alike" 2 r_l_alike 10) (c_l_shown : Cal P w K mg base "_law_shown" 3 r_l_shown 3) (c_l_longer : Cal P w K mg base "_law_longer" 4 r_l_longer 7) : FnOk P w K mg base (L2.CX P w) 11 g fd ["_law_script"] (spD K 1 r_law) := by
  refine law_ok F sc_law rfl fun fa cdv AA outer ss HH EE X hX C hr xs r hl hR => ?_
  obtain ⟨l_script, pre_0, rfl, rfl⟩ := hR
  subst hX
  show DSs _ _ _ [.v ((eL PyData.int) l_script), .no, .no, .no, .no, .no, .no, .no, .no, .no, .no] _
  obtain ⟨l_many_here_1, e_l_many_here_1⟩ : ∃ z : Int, z = ((2 : Int) + ((m_l_cell l_script (0 : Int)) % (5 : Int))) := ⟨_, rfl⟩
  refine ds_then (E' := [.v ((eL PyData.int) l_script), .v (.int l_many_here_1), .no, .no, .no, .no, .no, .no, .no, .no, .no]) (ds_set (x := (.int l_many_here_1)) (ln 1 sc_law.nd) (deC (by subst e_l_many_here_1; rfl) (de_add de_int (de_mod (de_call (f := "_law_cell") (c_l_cell.at hr) rfl (da_cons (de_v 0 (pv 0)) (da_cons de_int da_nil)) ⟨l_script, (0 : Int), (by first | (with_reducible exact nice_oth _) | (rw [hdu]; with_reducible exact hnc) | omega | assumption | (rw [hf1]; exact hnt) | (rw [e_l_handed_1]; exact hnt) | exact hnt | exact hws.two | exact hws.ne | (rw [htx]; exact words_len hnt) | (rw [htx]; exact hrd.2) | (rw [othS_eq]; exact hot.2.1) | (rw [othS_eq]; exact hot.2.2) | exact hrg | exact ⟨_, hnw, hws⟩ | decide), (by first | (with_reducible exact nice_oth _) | (rw [hdu]; with_reducible exact hnc) | omega | assumption | (rw [hf1]; exact hnt) | (rw [e_l_handed_1]; exact hnt) | exact hnt | exact hws.two | exact hws.ne | (rw [htx]; exact words_len hnt) | (rw [htx]; exact hrd.2) | (rw [othS_eq]; exact hot.2.1) | (rw [othS_eq]; exact hot.2.2) | exact hrg | exact ⟨_, hnw, hws⟩ | decide), rfl, rfl⟩) de_int (by decide))))) ?_
  have hm : 2 ≤ l_many_here_1 ∧ l_many_here_1 ≤ 6 := by rw [e_l_many_here_1]; omega
  obtain ⟨l_wishes_here_1, e_l_wishes_here_1⟩ : ∃ z : (List (T4 Int Int (Int × Int) Bool)), z = (m_l_wishes l_script l_many_here_1) := ⟨_, rfl⟩
  refine ds_then (E' := [.v ((eL PyData.int) l_script), .v (.int l_many_here_1), .v ((eL (eT4 PyData.int PyData.int (eP PyData.int PyData.int) PyData.bool)) l_wishes_here_1), .no, .no, .no, .no, .no, .no, .no, .no]) (ds_set (x := ((eL (eT4 PyData.int PyData.int (eP PyData.int PyData.int) PyData.bool)) l_wishes_here_1)) (ln 2 sc_law.nd) (deC (by subst e_l_wishes_here_1; rfl) (DN.toL (f := (eT4 PyData.int PyData.int (eP PyData.int PyData.int) PyData.bool)) (xs := (m_l_wishes l_script l_many_here_1)) (dn_call (f := "_law_wishes") (t := (oL (eT4 PyData.int PyData.int (eP PyData.int PyData.int) PyData.bool)) (m_l_wishes l_script l_many_here_1)) (c_l_wishes.at hr) rfl (da_cons (de_v 0 (pv 0)) (da_cons (de_v 1 (pv 1)) da_nil)) ⟨l_script, l_many_here_1, (by first | (with_reducible exact nice_oth _) | (rw [hdu]; with_reducible exact hnc) | omega | assumption | (rw [hf1]; exact hnt) | (rw [e_l_handed_1]; exact hnt) | exact hnt | exact hws.two | exact hws.ne | (rw [htx]; exact words_len hnt) | (rw [htx]; exact hrd.2) | (rw [othS_eq]; exact hot.2.1) | (rw [othS_eq]; exact hot.2.2) | exact hrg | exact ⟨_, hnw, hws⟩ | decide), (by first | (with_reducible exact nice_oth _) | (rw [hdu]; with_reducible exact hnc) | omega | assumption | (rw [hf1]; exact hnt) | (rw [e_l_handed_1]; exact hnt) | exact hnt | exact hws.two | exact hws.ne | (rw [htx]; exact words_len hnt) | (rw [htx]; exact hrd.2) | (rw [othS_eq]; exact hot.2.1) | (rw [othS_eq]; exact hot.2.2) | exact hrg | exact ⟨_, hnw, hws⟩ | decide), rfl, rfl⟩)))) ?_
  obtain ⟨nw, hnw, hws⟩ := wishes_ok (sc := l_script) hm
  rw [← e_l_wishes_here_1] at hws
  have hwl := hws.len
  obtain ⟨l_roads_here_1, e_l_roads_here_1⟩ : ∃ z : (List (T5 Int Int (Int × Int) (Int × Int) Bool)), z = (m_l_roads l_script l_many_here_1 l_wishes_here_1) := ⟨_, rfl⟩
  refine ds_then (E' := [.v ((eL PyData.int) l_script), .v (.int l_many_here_1), .v ((eL (eT4 PyData.int PyData.int (eP PyData.int PyData.int) PyData.bool)) l_wishes_here_1), .v ((eL (eT5 PyData.int PyData.int (eP PyData.int PyData.int) (eP PyData.int PyData.int) PyData.bool)) l_roads_here_1), .no, .no, .no, .no, .no, .no, .no]) (ds_set (x := ((eL (eT5 PyData.int PyData.int (eP PyData.int PyData.int) (eP PyData.int PyData.int) PyData.bool)) l_roads_here_1)) (ln 3 sc_law.nd) (deC (by subst e_l_roads_here_1; rfl) (de_call (f := "_law_roads") (c_l_roads.at hr) rfl (da_cons (de_v 0 (pv 0)) (da_cons (de_v 1 (pv 1)) (da_cons (de_v 2 (pv 2)) da_nil))) ⟨l_script, l_many_here_1, l_wishes_here_1, (by first | (with_reducible exact nice_oth _) | (rw [hdu]; with_reducible exact hnc) | omega | assumption | (rw [hf1]; exact hnt) | (rw [e_l_handed_1]; exact hnt) | exact hnt | exact hws.two | exact hws.ne | (rw [htx]; exact words_len hnt) | (rw [htx]; exact hrd.2) | (rw [othS_eq]; exact hot.2.1) | (rw [othS_eq]; exact hot.2.2) | exact hrg | exact ⟨_, hnw, hws⟩ | decide), (by first | (with_reducible exact nice_oth _) | (rw [hdu]; with_reducible exact hnc) | omega | assumption | (rw [hf1]; exact hnt) | (rw [e_l_handed_1]; exact hnt) | exact hnt | exact hws.two | exact hws.ne | (rw [htx]; exact words_len hnt) | (rw [htx]; exact hrd.2) | (rw [othS_eq]; exact hot.2.1) | (rw [othS_eq]; exact hot.2.2) | exact hrg | exact ⟨_, hnw, hws⟩ | decide), (by first | (with_reducible exact nice_oth _) | (rw [hdu]; with_reducible exact hnc) | omega | assumption | (rw [hf1]; exact hnt) | (rw [e_l_handed_1]; exact hnt) | exact hnt | exact hws.two | exact hws.ne | (rw [htx]; exact words_len hnt) | (rw [htx]; exact hrd.2) | (rw [othS_eq]; exact hot.2.1) | (rw [othS_eq]; exact hot.2.2) | exact hrg | exact ⟨_, hnw, hws⟩ | decide), (by first | (with_reducible exact nice_oth _) | (rw [hdu]; with_reducible exact hnc) | omega | assumption | (rw [hf1]; exact hnt) | (rw [e_l_handed_1]; exact hnt) | exact hnt | exact hws.two | exact hws.ne | (rw [htx]; exact words_len hnt) | (rw [htx]; exact hrd.2) | (rw [othS_eq]; exact hot.2.1) | (rw [othS_eq]; exact hot.2.2) | exact hrg | exact ⟨_, hnw, hws⟩ | decide), (by first | (with_reducible exact nice_oth _) | (rw [hdu]; with_reducible exact hnc) | omega | assumption | (rw [hf1]; exact hnt) | (rw [e_l_handed_1]; exact hnt) | exact hnt | exact hws.two | exact hws.ne | (rw [htx]; exact words_len hnt) | (rw [htx]; exact hrd.2) | (rw [othS_eq]; exact hot.2.1) | (rw [othS_eq]; exact hot.2.2) | exact hrg | exact ⟨_, hnw, hws⟩ | decide), rfl, rfl⟩))) ?_
  have hrg := roads_ok (sc := l_script) (ws := l_wishes_here_1) hm (by omega) hws.two hws.ne
  rw [← e_l_roads_here_1] at hrg
  have hrl := hrg.rd.len
  have hnt := nts_of hm hnw hws hrg
  have hrd := read_words hm hnw hws hrg
  have hnc := nice_due (m := l_many_here_1) (rs := l_roads_here_1) (ws := l_wishes_here_1) (by omega) (by omega)
  obtain ⟨l_text_1, e_l_text_1⟩ : ∃ z : PySem.Str, z = (m_l_words l_many_here_1 l_roads_here_1 l_wishes_here_1) := ⟨_, rfl⟩
  refine ds_then (E' := [.v ((eL PyData.int) l_script), .v (.int l_many_here_1), .v ((eL (eT4 PyData.int PyData.int (eP PyData.int PyData.int) PyData.bool)) l_wishes_here_1), .v ((eL (eT5 PyData.int PyData.int (eP PyData.int PyData.int) (eP PyData.int PyData.int) PyData.bool)) l_roads_here_1), .v (.str l_text_1), .no, .no, .no, .no, .no, .no]) (ds_set (x := (.str l_text_1)) (ln 4 sc_law.nd) (deC (by subst e_l_text_1; rfl) (de_call (f := "_law_words") (c_l_words.at hr) rfl (da_cons (de_v 1 (pv 1)) (da_cons (de_v 3 (pv 3)) (da_cons (de_v 2 (pv 2)) da_nil))) ⟨l_many_here_1, l_roads_here_1, l_wishes_here_1, (by first | (with_reducible exact nice_oth _) | (rw [hdu]; with_reducible exact hnc) | omega | assumption | (rw [hf1]; exact hnt) | (rw [e_l_handed_1]; exact hnt) | exact hnt | exact hws.two | exact hws.ne | (rw [htx]; exact words_len hnt) | (rw [htx]; exact hrd.2) | (rw [othS_eq]; exact hot.2.1) | (rw [othS_eq]; exact hot.2.2) | exact hrg | exact ⟨_, hnw, hws⟩ | decide), rfl, rfl⟩))) ?_
  have htx : l_text_1 = m_l_words l_many_here_1 l_roads_here_1 l_wishes_here_1 := e_l_text_1
  obtain ⟨l_due_1, e_l_due_1⟩ : ∃ z : ((Int × (List (T5 Int Int (Int × Int) (Int × Int) Bool))) × (List (T4 Int Int (Int × Int) Bool))), z = ((l_many_here_1, l_roads_here_1), l_wishes_here_1) := ⟨_, rfl⟩
  refine ds_then (E' := [.v ((eL PyData.int) l_script), .v (.int l_many_here_1), .v ((eL (eT4 PyData.int PyData.int (eP PyData.int PyData.int) PyData.bool)) l_wishes_here_1), .v ((eL (eT5 PyData.int PyData.int (eP PyData.int PyData.int) (eP PyData.int PyData.int) PyData.bool)) l_roads_here_1), .v (.str l_text_1), .v ((eP (eP PyData.int (eL (eT5 PyData.int PyData.int (eP PyData.int PyData.int) (eP PyData.int PyData.int) PyData.bool))) (eL (eT4 PyData.int PyData.int (eP PyData.int PyData.int) PyData.bool))) l_due_1), .no, .no, .no, .no, .no]) (ds_set (x := ((eP (eP PyData.int (eL (eT5 PyData.int PyData.int (eP PyData.int PyData.int) (eP PyData.int PyData.int) PyData.bool))) (eL (eT4 PyData.int PyData.int (eP PyData.int PyData.int) PyData.bool))) l_due_1)) (ln 5 sc_law.nd) (deC (by subst e_l_due_1; rfl) (de_tup (da_cons (de_tup (da_cons (de_v 1 (pv 1)) (da_cons (de_v 3 (pv 3)) da_nil))) (da_cons (de_v 2 (pv 2)) da_nil))))) ?_
  have hdu : l_due_1 = ((l_many_here_1, l_roads_here_1), l_wishes_here_1) := e_l_due_1
  obtain ⟨l_first_1, e_l_first_1⟩ : ∃ z : ((Int × (List (T5 Int Int (Int × Int) (Int × Int) Bool))) × (List (T4 Int Int (Int × Int) Bool))), z = (okvE (m_read_net l_text_1)) := ⟨_, rfl⟩
  refine ds_then (E' := [.v ((eL PyData.int) l_script), .v (.int l_many_here_1), .v ((eL (eT4 PyData.int PyData.int (eP PyData.int PyData.int) PyData.bool)) l_wishes_here_1), .v ((eL (eT5 PyData.int PyData.int (eP PyData.int PyData.int) (eP PyData.int PyData.int) PyData.bool)) l_roads_here_1), .v (.str l_text_1), .v ((eP (eP PyData.int (eL (eT5 PyData.int PyData.int (eP PyData.int PyData.int) (eP PyData.int PyData.int) PyData.bool))) (eL (eT4 PyData.int PyData.int (eP PyData.int PyData.int) PyData.bool))) l_due_1), .o (oTN PyData.int (eT5 PyData.int PyData.int (eP PyData.int PyData.int) (eP PyData.int PyData.int) PyData.bool) (eT4 PyData.int PyData.int (eP PyData.int PyData.int) PyData.bool) l_first_1), .no, .no, .no, .no]) (ds_setN (t := oTN PyData.int (eT5 PyData.int PyData.int (eP PyData.int PyData.int) (eP PyData.int PyData.int) PyData.bool) (eT4 PyData.int PyData.int (eP PyData.int PyData.int) PyData.bool) l_first_1) (ln 6 sc_law.nd) (dnC (by subst e_l_first_1; rfl) (dn_call (f := "read_net") (t := (oTN PyData.int (eT5 PyData.int PyData.int (eP PyData.int PyData.int) (eP PyData.int PyData.int) PyData.bool) (eT4 PyData.int PyData.int (eP PyData.int PyData.int) PyData.bool)) (okvE (m_read_net l_text_1))) (c_read_net.at hr) rfl (da_cons (de_v 4 (pv 4)) da_nil) ⟨l_text_1, (by first | (with_reducible exact nice_oth _) | (rw [hdu]; with_reducible exact hnc) | omega | assumption | (rw [hf1]; exact hnt) | (rw [e_l_handed_1]; exact hnt) | exact hnt | exact hws.two | exact hws.ne | (rw [htx]; exact words_len hnt) | (rw [htx]; exact hrd.2) | (rw [othS_eq]; exact hot.2.1) | (rw [othS_eq]; exact hot.2.2) | exact hrg | exact ⟨_, hnw, hws⟩ | decide), (by first | (with_reducible exact nice_oth _) | (rw [hdu]; with_reducible exact hnc) | omega | assumption | (rw [hf1]; exact hnt) | (rw [e_l_handed_1]; exact hnt) | exact hnt | exact hws.two | exact hws.ne | (rw [htx]; exact words_len hnt) | (rw [htx]; exact hrd.2) | (rw [othS_eq]; exact hot.2.1) | (rw [othS_eq]; exact hot.2.2) | exact hrg | exact ⟨_, hnw, hws⟩ | decide), rfl, resEO_okv (by first | (rw [htx, hrd.1]; rfl) | (rw [othS_eq, hot.1]; rfl))⟩))) ?_
  try (have hf1 : l_first_1 = ((l_many_here_1, l_roads_here_1), l_wishes_here_1) := by rw [e_l_first_1, htx, hrd.1]; rfl)
  refine ds_ifr (dt_borrowS 6 (dat_TN PyData.int (eT5 PyData.int PyData.int (eP PyData.int PyData.int) (eP PyData.int PyData.int) PyData.bool) (eT4 PyData.int PyData.int (eP PyData.int PyData.int) PyData.bool)) rfl (DW.toT (dw_or (dt_not (dt_val (de_call (f := "_law_alike") (c_l_alike.at hr) rfl (da_cons (de_v 6 (pv 6)) (da_cons (de_v 5 (pv 5)) da_nil)) ⟨((eP (eP PyData.int (eL (eT5 PyData.int PyData.int (eP PyData.int PyData.int) (eP PyData.int PyData.int) PyData.bool))) (eL (eT4 PyData.int PyData.int (eP PyData.int PyData.int) PyData.bool))) l_first_1), ((eP (eP PyData.int (eL (eT5 PyData.int PyData.int (eP PyData.int PyData.int) (eP PyData.int PyData.int) PyData.bool))) (eL (eT4 PyData.int PyData.int (eP PyData.int PyData.int) PyData.bool))) l_due_1), (by first | (with_reducible exact nice_oth _) | (rw [hdu]; with_reducible exact hnc) | omega | assumption | (rw [hf1]; exact hnt) | (rw [e_l_handed_1]; exact hnt) | exact hnt | exact hws.two | exact hws.ne | (rw [htx]; exact words_len hnt) | (rw [htx]; exact hrd.2) | (rw [othS_eq]; exact hot.2.1) | (rw [othS_eq]; exact hot.2.2) | exact hrg | exact ⟨_, hnw, hws⟩ | decide), rfl, rfl⟩))) (fun h_1 => by have q := h_1; (try simp only [eqD_t, eqD_f, decide_eq_true_eq, decide_eq_false_iff_not, Bool.not_eq_true', Bool.not_eq_false', Bool.and_eq_true, Bool.or_eq_true, Bool.and_eq_false_iff, Bool.or_eq_false_iff, Bool.not_true, Bool.not_false, Bool.not_not, Decidable.not_not] at q); exact (dw_or1 (dt_not (dt_val (de_call (f := "_law_shown") (c_l_shown.at hr) rfl (da_cons (de_it (de_v 6 (pv 6)) de_int) (da_cons (de_it (de_v 6 (pv 6)) de_int) (da_cons (de_v 4 (pv 4)) da_nil))) ⟨l_first_1.1, l_first_1.2, l_text_1, (by first | (with_reducible exact nice_oth _) | (rw [hdu]; with_reducible exact hnc) | omega | assumption | (rw [hf1]; exact hnt) | (rw [e_l_handed_1]; exact hnt) | exact hnt | exact hws.two | exact hws.ne | (rw [htx]; exact words_len hnt) | (rw [htx]; exact hrd.2) | (rw [othS_eq]; exact hot.2.1) | (rw [othS_eq]; exact hot.2.2) | exact hrg | exact ⟨_, hnw, hws⟩ | decide), rfl, rfl⟩)))))))) (fun c_1 => ?_) (fun c_1 => ?_)
  · have q_c_1 := c_1
    try simp only [eqD_t, eqD_f, decide_eq_true_eq, decide_eq_false_iff_not, Bool.not_eq_true', Bool.not_eq_false', Bool.and_eq_true, Bool.or_eq_true, Bool.and_eq_false_iff, Bool.or_eq_false_iff, Bool.not_true, Bool.not_false, Bool.not_not, Decidable.not_not] at q_c_1
    exact ds_retD de_bl (.inl (by first | exact (law_c1 hf1 hdu htx hnc c_1).elim | exact (law_c2 ho1 c_2).elim | exact (law_c3 e_l_handed_1 htx c_3).elim | exact (law_c4 ha1 hdu hnc (by rw [e_l_first_3, e_l_first_2, hf1]) c_4).elim | (rw [longer_true hm hnw hws hrg]; rfl)))
  have q_c_1 := c_1
  try simp only [eqD_t, eqD_f, decide_eq_true_eq, decide_eq_false_iff_not, Bool.not_eq_true', Bool.not_eq_false', Bool.and_eq_true, Bool.or_eq_true, Bool.and_eq_false_iff, Bool.or_eq_false_iff, Bool.not_true, Bool.not_false, Bool.not_not, Decidable.not_not] at q_c_1
  obtain ⟨l_number_here_1, e_l_number_here_1⟩ : ∃ z : Int, z = ((m_l_mixed l_script (5 : Int)) % (1000 : Int)) := ⟨_, rfl⟩
  refine ds_then (E' := [.v ((eL PyData.int) l_script), .v (.int l_many_here_1), .v ((eL (eT4 PyData.int PyData.int (eP PyData.int PyData.int) PyData.bool)) l_wishes_here_1), .v ((eL (eT5 PyData.int PyData.int (eP PyData.int PyData.int) (eP PyData.int PyData.int) PyData.bool)) l_roads_here_1), .v (.str l_text_1), .v ((eP (eP PyData.int (eL (eT5 PyData.int PyData.int (eP PyData.int PyData.int) (eP PyData.int PyData.int) PyData.bool))) (eL (eT4 PyData.int PyData.int (eP PyData.int PyData.int) PyData.bool))) l_due_1), .o (oTN PyData.int (eT5 PyData.int PyData.int (eP PyData.int PyData.int) (eP PyData.int PyData.int) PyData.bool) (eT4 PyData.int PyData.int (eP PyData.int PyData.int) PyData.bool) l_first_1), .v (.int l_number_here_1), .no, .no, .no]) (ds_set (x := (.int l_number_here_1)) (ln 7 sc_law.nd) (deC (by subst e_l_number_here_1; rfl) (de_mod (de_call (f := "_law_mixed") (c_l_mixed.at hr) rfl (da_cons (de_v 0 (pv 0)) (da_cons de_int da_nil)) ⟨l_script, (5 : Int), (by first | (with_reducible exact nice_oth _) | (rw [hdu]; with_reducible exact hnc) | omega | assumption | (rw [hf1]; exact hnt) | (rw [e_l_handed_1]; exact hnt) | exact hnt | exact hws.two | exact hws.ne | (rw [htx]; exact words_len hnt) | (rw [htx]; exact hrd.2) | (rw [othS_eq]; exact hot.2.1) | (rw [othS_eq]; exact hot.2.2) | exact hrg | exact ⟨_, hnw, hws⟩ | decide), (by first | (with_reducible exact nice_oth _) | (rw [hdu]; with_reducible exact hnc) | omega | assumption | (rw [hf1]; exact hnt) | (rw [e_l_handed_1]; exact hnt) | exact hnt | exact hws.two | exact hws.ne | (rw [htx]; exact words_len hnt) | (rw [htx]; exact hrd.2) | (rw [othS_eq]; exact hot.2.1) | (rw [othS_eq]; exact hot.2.2) | exact hrg | exact ⟨_, hnw, hws⟩ | decide), rfl, rfl⟩) de_int (by decide)))) ?_
  have hnh : 0 ≤ l_number_here_1 ∧ l_number_here_1 < 1000 := by rw [e_l_number_here_1]; exact ⟨Int.emod_nonneg _ (by decide), Int.emod_lt_of_pos _ (by decide)⟩
  have hot := oth_ok hnh
  obtain ⟨l_other_1, e_l_other_1⟩ : ∃ z : ((Int × (List (T5 Int Int (Int × Int) (Int × Int) Bool))) × (List (T4 Int Int (Int × Int) Bool))), z = (okvE (m_read_net (othS l_number_here_1.toNat l_number_here_1))) := ⟨_, rfl⟩
  refine ds_then (E' := [.v ((eL PyData.int) l_script), .v (.int l_many_here_1), .v ((eL (eT4 PyData.int PyData.int (eP PyData.int PyData.int) PyData.bool)) l_wishes_here_1), .v ((eL (eT5 PyData.int PyData.int (eP PyData.int PyData.int) (eP PyData.int PyData.int) PyData.bool)) l_roads_here_1), .v (.str l_text_1), .v ((eP (eP PyData.int (eL (eT5 PyData.int PyData.int (eP PyData.int PyData.int) (eP PyData.int PyData.int) PyData.bool))) (eL (eT4 PyData.int PyData.int (eP PyData.int PyData.int) PyData.bool))) l_due_1), .o (oTN PyData.int (eT5 PyData.int PyData.int (eP PyData.int PyData.int) (eP PyData.int PyData.int) PyData.bool) (eT4 PyData.int PyData.int (eP PyData.int PyData.int) PyData.bool) l_first_1), .v (.int l_number_here_1), .v ((eP (eP PyData.int (eL (eT5 PyData.int PyData.int (eP PyData.int PyData.int) (eP PyData.int PyData.int) PyData.bool))) (eL (eT4 PyData.int PyData.int (eP PyData.int PyData.int) PyData.bool))) l_other_1), .no, .no]) (ds_set (x := ((eP (eP PyData.int (eL (eT5 PyData.int PyData.int (eP PyData.int PyData.int) (eP PyData.int PyData.int) PyData.bool))) (eL (eT4 PyData.int PyData.int (eP PyData.int PyData.int) PyData.bool))) l_other_1)) (ln 8 sc_law.nd) (deC (by subst e_l_other_1; rfl) (DN.toS (v := (okvE (m_read_net (othS l_number_here_1.toNat l_number_here_1)))) (dat_TN PyData.int (eT5 PyData.int PyData.int (eP PyData.int PyData.int) (eP PyData.int PyData.int) PyData.bool) (eT4 PyData.int PyData.int (eP PyData.int PyData.int) PyData.bool)) (dn_call (f := "read_net") (t := (oTN PyData.int (eT5 PyData.int PyData.int (eP PyData.int PyData.int) (eP PyData.int PyData.int) PyData.bool) (eT4 PyData.int PyData.int (eP PyData.int PyData.int) PyData.bool)) (okvE (m_read_net (othS l_number_here_1.toNat l_number_here_1)))) (c_read_net.at hr) rfl (da_cons (deC (y := .str (othS l_number_here_1.toNat l_number_here_1)) (by rw [othS_eq]) (de_addS (de_addS de_str (de_strI (de_v 7 (pv 7)) (by exact sml_log ⟨by omega, by omega⟩) rfl T.b_str) (by have h1 := sml_len (i := l_number_here_1) ⟨by omega, by omega⟩; have h2 : ("places 2; lane 0 1 " : PySem.Str).length ≤ 100 := (by decide +kernel); have h3 : (" 0; bus 0 1 1/2" : PySem.Str).length ≤ 100 := (by decide +kernel); rw [sizeLine_eq]; (try rw [len_app]); omega)) de_str (by have h1 := sml_len (i := l_number_here_1) ⟨by omega, by omega⟩; have h2 : ("places 2; lane 0 1 " : PySem.Str).length ≤ 100 := (by decide +kernel); have h3 : (" 0; bus 0 1 1/2" : PySem.Str).length ≤ 100 := (by decide +kernel); rw [sizeLine_eq]; (try rw [len_app]); omega))) da_nil) ⟨(othS l_number_here_1.toNat l_number_here_1), (by first | (with_reducible exact nice_oth _) | (rw [hdu]; with_reducible exact hnc) | omega | assumption | (rw [hf1]; exact hnt) | (rw [e_l_handed_1]; exact hnt) | exact hnt | exact hws.two | exact hws.ne | (rw [htx]; exact words_len hnt) | (rw [htx]; exact hrd.2) | (rw [othS_eq]; exact hot.2.1) | (rw [othS_eq]; exact hot.2.2) | exact hrg | exact ⟨_, hnw, hws⟩ | decide), (by first | (with_reducible exact nice_oth _) | (rw [hdu]; with_reducible exact hnc) | omega | assumption | (rw [hf1]; exact hnt) | (rw [e_l_handed_1]; exact hnt) | exact hnt | exact hws.two | exact hws.ne | (rw [htx]; exact words_len hnt) | (rw [htx]; exact hrd.2) | (rw [othS_eq]; exact hot.2.1) | (rw [othS_eq]; exact hot.2.2) | exact hrg | exact ⟨_, hnw, hws⟩ | decide), rfl, resEO_okv (by first | (rw [htx, hrd.1]; rfl) | (rw [othS_eq, hot.1]; rfl))⟩)))) ?_
  have ho1 : l_other_1 = ((2, [rO l_number_here_1]), [wO]) := by rw [e_l_other_1, othS_eq, hot.1]; rfl
  refine ds_ifr (dt_not (dt_val (de_call (f := "_law_alike") (c_l_alike.at hr) rfl (da_cons (de_v 8 (pv 8)) (da_cons (DN.toPL (f := (eP PyData.int (eL (eT5 PyData.int PyData.int (eP PyData.int PyData.int) (eP PyData.int PyData.int) PyData.bool)))) (g := (eT4 PyData.int PyData.int (eP PyData.int PyData.int) PyData.bool)) (v := (((2 : Int), ([(⟨(0 : Int), (1 : Int), (l_number_here_1, (1 : Int)), ((0 : Int), (1 : Int)), true⟩ : (T5 Int Int (Int × Int) (Int × Int) Bool))] : (List (T5 Int Int (Int × Int) (Int × Int) Bool)))), ([(⟨(0 : Int), (1 : Int), ((1 : Int), (2 : Int)), true⟩ : (T4 Int Int (Int × Int) Bool))] : (List (T4 Int Int (Int × Int) Bool))))) (dn_pair (f := (eP PyData.int (eL (eT5 PyData.int PyData.int (eP PyData.int PyData.int) (eP PyData.int PyData.int) PyData.bool)))) (g := (eT4 PyData.int PyData.int (eP PyData.int PyData.int) PyData.bool)) (x := ((2 : Int), ([(⟨(0 : Int), (1 : Int), (l_number_here_1, (1 : Int)), ((0 : Int), (1 : Int)), true⟩ : (T5 Int Int (Int × Int) (Int × Int) Bool))] : (List (T5 Int Int (Int × Int) (Int × Int) Bool))))) (ys := ([(⟨(0 : Int), (1 : Int), ((1 : Int), (2 : Int)), true⟩ : (T4 Int Int (Int × Int) Bool))] : (List (T4 Int Int (Int × Int) Bool)))) (DN.toPL (f := PyData.int) (g := (eT5 PyData.int PyData.int (eP PyData.int PyData.int) (eP PyData.int PyData.int) PyData.bool)) (v := ((2 : Int), ([(⟨(0 : Int), (1 : Int), (l_number_here_1, (1 : Int)), ((0 : Int), (1 : Int)), true⟩ : (T5 Int Int (Int × Int) (Int × Int) Bool))] : (List (T5 Int Int (Int × Int) (Int × Int) Bool))))) (dn_pair (f := PyData.int) (g := (eT5 PyData.int PyData.int (eP PyData.int PyData.int) (eP PyData.int PyData.int) PyData.bool)) (x := (2 : Int)) (ys := ([(⟨(0 : Int), (1 : Int), (l_number_here_1, (1 : Int)), ((0 : Int), (1 : Int)), true⟩ : (T5 Int Int (Int × Int) (Int × Int) Bool))] : (List (T5 Int Int (Int × Int) (Int × Int) Bool)))) de_int (dn_lst (da_cons (de_tup (da_cons de_int (da_cons de_int (da_cons (de_tup (da_cons (de_v 7 (pv 7)) (da_cons de_int da_nil))) (da_cons (de_tup (da_cons de_int (da_cons de_int da_nil))) (da_cons de_bl da_nil)))))) da_nil)))) (dn_lst (da_cons (de_tup (da_cons de_int (da_cons de_int (da_cons (de_tup (da_cons de_int (da_cons de_int da_nil))) (da_cons de_bl da_nil))))) da_nil)))) da_nil)) ⟨((eP (eP PyData.int (eL (eT5 PyData.int PyData.int (eP PyData.int PyData.int) (eP PyData.int PyData.int) PyData.bool))) (eL (eT4 PyData.int PyData.int (eP PyData.int PyData.int) PyData.bool))) l_other_1), ((eP (eP PyData.int (eL (eT5 PyData.int PyData.int (eP PyData.int PyData.int) (eP PyData.int PyData.int) PyData.bool))) (eL (eT4 PyData.int PyData.int (eP PyData.int PyData.int) PyData.bool))) (((2 : Int), ([(⟨(0 : Int), (1 : Int), (l_number_here_1, (1 : Int)), ((0 : Int), (1 : Int)), true⟩ : (T5 Int Int (Int × Int) (Int × Int) Bool))] : (List (T5 Int Int (Int × Int) (Int × Int) Bool)))), ([(⟨(0 : Int), (1 : Int), ((1 : Int), (2 : Int)), true⟩ : (T4 Int Int (Int × Int) Bool))] : (List (T4 Int Int (Int × Int) Bool))))), (by first | (with_reducible exact nice_oth _) | (rw [hdu]; with_reducible exact hnc) | omega | assumption | (rw [hf1]; exact hnt) | (rw [e_l_handed_1]; exact hnt) | exact hnt | exact hws.two | exact hws.ne | (rw [htx]; exact words_len hnt) | (rw [htx]; exact hrd.2) | (rw [othS_eq]; exact hot.2.1) | (rw [othS_eq]; exact hot.2.2) | exact hrg | exact ⟨_, hnw, hws⟩ | decide), rfl, rfl⟩))) (fun c_2 => ?_) (fun c_2 => ?_)
  · have q_c_2 := c_2
    try simp only [eqD_t, eqD_f, decide_eq_true_eq, decide_eq_false_iff_not, Bool.not_eq_true', Bool.not_eq_false', Bool.and_eq_true, Bool.or_eq_true, Bool.and_eq_false_iff, Bool.or_eq_false_iff, Bool.not_true, Bool.not_false, Bool.not_not, Decidable.not_not] at q_c_2
    exact ds_retD de_bl (.inl (by first | exact (law_c1 hf1 hdu htx hnc c_1).elim | exact (law_c2 ho1 c_2).elim | exact (law_c3 e_l_handed_1 htx c_3).elim | exact (law_c4 ha1 hdu hnc (by rw [e_l_first_3, e_l_first_2, hf1]) c_4).elim | (rw [longer_true hm hnw hws hrg]; rfl)))
  have q_c_2 := c_2
  try simp only [eqD_t, eqD_f, decide_eq_true_eq, decide_eq_false_iff_not, Bool.not_eq_true', Bool.not_eq_false', Bool.and_eq_true, Bool.or_eq_true, Bool.and_eq_false_iff, Bool.or_eq_false_iff, Bool.not_true, Bool.not_false, Bool.not_not, Decidable.not_not] at q_c_2
  obtain ⟨l_first_2, e_l_first_2⟩ : ∃ z : ((Int × (List (T5 Int Int (Int × Int) (Int × Int) Bool))) × (List (T4 Int Int (Int × Int) Bool))), z = ((l_first_1.1.1, []), l_first_1.2) := ⟨_, rfl⟩
  refine ds_then (E' := [.v ((eL PyData.int) l_script), .v (.int l_many_here_1), .v ((eL (eT4 PyData.int PyData.int (eP PyData.int PyData.int) PyData.bool)) l_wishes_here_1), .v ((eL (eT5 PyData.int PyData.int (eP PyData.int PyData.int) (eP PyData.int PyData.int) PyData.bool)) l_roads_here_1), .v (.str l_text_1), .v ((eP (eP PyData.int (eL (eT5 PyData.int PyData.int (eP PyData.int PyData.int) (eP PyData.int PyData.int) PyData.bool))) (eL (eT4 PyData.int PyData.int (eP PyData.int PyData.int) PyData.bool))) l_due_1), .o (oTN PyData.int (eT5 PyData.int PyData.int (eP PyData.int PyData.int) (eP PyData.int PyData.int) PyData.bool) (eT4 PyData.int PyData.int (eP PyData.int PyData.int) PyData.bool) l_first_2), .v (.int l_number_here_1), .v ((eP (eP PyData.int (eL (eT5 PyData.int PyData.int (eP PyData.int PyData.int) (eP PyData.int PyData.int) PyData.bool))) (eL (eT4 PyData.int PyData.int (eP PyData.int PyData.int) PyData.bool))) l_other_1), .no, .no]) (ds_clearTN (f := PyData.int) (g := (eT5 PyData.int PyData.int (eP PyData.int PyData.int) (eP PyData.int PyData.int) PyData.bool)) (h := (eT4 PyData.int PyData.int (eP PyData.int PyData.int) PyData.bool)) (v := l_first_1) 6 (fun _ => pv 6) de_int de_int rfl (by subst e_l_first_2; rfl)) ?_
  try (have hf1 : l_first_2 = ((l_many_here_1, l_roads_here_1), l_wishes_here_1) := by rw [e_l_first_2, htx, hrd.1]; rfl)
  obtain ⟨l_first_3, e_l_first_3⟩ : ∃ z : ((Int × (List (T5 Int Int (Int × Int) (Int × Int) Bool))) × (List PySem.PyData)), z = (l_first_2.1, l_first_2.2.map (eT4 PyData.int PyData.int (eP PyData.int PyData.int) PyData.bool) ++ [(.int (1 : Int))]) := ⟨_, rfl⟩
  refine ds_then (E' := [.v ((eL PyData.int) l_script), .v (.int l_many_here_1), .v ((eL (eT4 PyData.int PyData.int (eP PyData.int PyData.int) PyData.bool)) l_wishes_here_1), .v ((eL (eT5 PyData.int PyData.int (eP PyData.int PyData.int) (eP PyData.int PyData.int) PyData.bool)) l_roads_here_1), .v (.str l_text_1), .v ((eP (eP PyData.int (eL (eT5 PyData.int PyData.int (eP PyData.int PyData.int) (eP PyData.int PyData.int) PyData.bool))) (eL (eT4 PyData.int PyData.int (eP PyData.int PyData.int) PyData.bool))) l_due_1), .o (oTN PyData.int (eT5 PyData.int PyData.int (eP PyData.int PyData.int) (eP PyData.int PyData.int) PyData.bool) eA l_first_3), .v (.int l_number_here_1), .v ((eP (eP PyData.int (eL (eT5 PyData.int PyData.int (eP PyData.int PyData.int) (eP PyData.int PyData.int) PyData.bool))) (eL (eT4 PyData.int PyData.int (eP PyData.int PyData.int) PyData.bool))) l_other_1), .no, .no]) (ds_appendTN (f := PyData.int) (g := (eT5 PyData.int PyData.int (eP PyData.int PyData.int) (eP PyData.int PyData.int) PyData.bool)) (h := (eT4 PyData.int PyData.int (eP PyData.int PyData.int) PyData.bool)) (v := l_first_2) 6 (fun _ => pv 6) de_int de_int rfl (by rw [sizeLine_eq]; (have h9 : l_first_2.2.length = l_wishes_here_1.length := (by rw [e_l_first_2, hf1]); omega)) (by subst e_l_first_3; rfl)) ?_
  try (have hf1 : l_first_3 = ((l_many_here_1, l_roads_here_1), l_wishes_here_1) := by rw [e_l_first_3, htx, hrd.1]; rfl)
  obtain ⟨l_handed_1, e_l_handed_1⟩ : ∃ z : ((List (T5 Int Int (Int × Int) (Int × Int) Bool)) × (List (T4 Int Int (Int × Int) Bool))), z = (l_roads_here_1, l_wishes_here_1) := ⟨_, rfl⟩
  refine ds_then (E' := [.v ((eL PyData.int) l_script), .v (.int l_many_here_1), .v ((eL (eT4 PyData.int PyData.int (eP PyData.int PyData.int) PyData.bool)) l_wishes_here_1), .v ((eL (eT5 PyData.int PyData.int (eP PyData.int PyData.int) (eP PyData.int PyData.int) PyData.bool)) l_roads_here_1), .v (.str l_text_1), .v ((eP (eP PyData.int (eL (eT5 PyData.int PyData.int (eP PyData.int PyData.int) (eP PyData.int PyData.int) PyData.bool))) (eL (eT4 PyData.int PyData.int (eP PyData.int PyData.int) PyData.bool))) l_due_1), .o (oTN PyData.int (eT5 PyData.int PyData.int (eP PyData.int PyData.int) (eP PyData.int PyData.int) PyData.bool) eA l_first_3), .v (.int l_number_here_1), .v ((eP (eP PyData.int (eL (eT5 PyData.int PyData.int (eP PyData.int PyData.int) (eP PyData.int PyData.int) PyData.bool))) (eL (eT4 PyData.int PyData.int (eP PyData.int PyData.int) PyData.bool))) l_other_1), .v ((eH (eL (eT5 PyData.int PyData.int (eP PyData.int PyData.int) (eP PyData.int PyData.int) PyData.bool)) (eL (eT4 PyData.int PyData.int (eP PyData.int PyData.int) PyData.bool))) l_handed_1), .no]) (ds_set (x := ((eH (eL (eT5 PyData.int PyData.int (eP PyData.int PyData.int) (eP PyData.int PyData.int) PyData.bool)) (eL (eT4 PyData.int PyData.int (eP PyData.int PyData.int) PyData.bool))) l_handed_1)) (ln 9 sc_law.nd) (deC (by subst e_l_handed_1; rfl) (de_hl (f := (eL (eT5 PyData.int PyData.int (eP PyData.int PyData.int) (eP PyData.int PyData.int) PyData.bool))) (g := (eL (eT4 PyData.int PyData.int (eP PyData.int PyData.int) PyData.bool))) (x := l_roads_here_1) (y := l_wishes_here_1) (da_cons (DN.toL (f := (eT5 PyData.int PyData.int (eP PyData.int PyData.int) (eP PyData.int PyData.int) PyData.bool)) (xs := l_roads_here_1) (dn_listL (de_v 3 (pv 3)) rfl T.b_list)) (da_cons (DN.toL (f := (eT4 PyData.int PyData.int (eP PyData.int PyData.int) PyData.bool)) (xs := l_wishes_here_1) (dn_listL (de_v 2 (pv 2)) rfl T.b_list)) da_nil))))) ?_
  refine ds_ifr (DW.toT (dw_or (dt_not (dt_val (de_call (f := "_law_shown") (c_l_shown.at hr) rfl (da_cons (de_tup (da_cons (de_v 1 (pv 1)) (da_cons (de_ixH0 (f := (eL (eT5 PyData.int PyData.int (eP PyData.int PyData.int) (eP PyData.int PyData.int) PyData.bool))) (g := (eL (eT4 PyData.int PyData.int (eP PyData.int PyData.int) PyData.bool))) (v := l_handed_1) (de_v 9 (pv 9)) de_int) da_nil))) (da_cons (de_ixH1 (f := (eL (eT5 PyData.int PyData.int (eP PyData.int PyData.int) (eP PyData.int PyData.int) PyData.bool))) (g := (eL (eT4 PyData.int PyData.int (eP PyData.int PyData.int) PyData.bool))) (v := l_handed_1) (de_v 9 (pv 9)) de_int) (da_cons (de_v 4 (pv 4)) da_nil))) ⟨(l_many_here_1, l_handed_1.1), l_handed_1.2, l_text_1, (by first | (with_reducible exact nice_oth _) | (rw [hdu]; with_reducible exact hnc) | omega | assumption | (rw [hf1]; exact hnt) | (rw [e_l_handed_1]; exact hnt) | exact hnt | exact hws.two | exact hws.ne | (rw [htx]; exact words_len hnt) | (rw [htx]; exact hrd.2) | (rw [othS_eq]; exact hot.2.1) | (rw [othS_eq]; exact hot.2.2) | exact hrg | exact ⟨_, hnw, hws⟩ | decide), rfl, rfl⟩))) (fun _ => (dw_or1 (dt_neU (x := l_handed_1) (y := (l_roads_here_1, l_wishes_here_1)) hr.units (eqE_H (eqE_L (eqE_T5 eqE_int eqE_int (eqE_P eqE_int eqE_int) (eqE_P eqE_int eqE_int) eqE_bool)) (eqE_L (eqE_T4 eqE_int eqE_int (eqE_P eqE_int eqE_int) eqE_bool))) (de_v 9 (pv 9)) (de_hl (f := (eL (eT5 PyData.int PyData.int (eP PyData.int PyData.int) (eP PyData.int PyData.int) PyData.bool))) (g := (eL (eT4 PyData.int PyData.int (eP PyData.int PyData.int) PyData.bool))) (x := l_roads_here_1) (y := l_wishes_here_1) (da_cons (de_v 3 (pv 3)) (da_cons (de_v 2 (pv 2)) da_nil)))))))) (fun c_3 => ?_) (fun c_3 => ?_)
  · have q_c_3 := c_3
    try simp only [eqD_t, eqD_f, decide_eq_true_eq, decide_eq_false_iff_not, Bool.not_eq_true', Bool.not_eq_false', Bool.and_eq_true, Bool.or_eq_true, Bool.and_eq_false_iff, Bool.or_eq_false_iff, Bool.not_true, Bool.not_false, Bool.not_not, Decidable.not_not] at q_c_3
    exact ds_retD de_bl (.inl (by first | exact (law_c1 hf1 hdu htx hnc c_1).elim | exact (law_c2 ho1 c_2).elim | exact (law_c3 e_l_handed_1 htx c_3).elim | exact (law_c4 ha1 hdu hnc (by rw [e_l_first_3, e_l_first_2, hf1]) c_4).elim | (rw [longer_true hm hnw hws hrg]; rfl)))
  have q_c_3 := c_3
  try simp only [eqD_t, eqD_f, decide_eq_true_eq, decide_eq_false_iff_not, Bool.not_eq_true', Bool.not_eq_false', Bool.and_eq_true, Bool.or_eq_true, Bool.and_eq_false_iff, Bool.or_eq_false_iff, Bool.not_true, Bool.not_false, Bool.not_not, Decidable.not_not] at q_c_3
  obtain ⟨l_again_1, e_l_again_1⟩ : ∃ z : ((Int × (List (T5 Int Int (Int × Int) (Int × Int) Bool))) × (List (T4 Int Int (Int × Int) Bool))), z = (okvE (m_read_net l_text_1)) := ⟨_, rfl⟩
  refine ds_then (E' := [.v ((eL PyData.int) l_script), .v (.int l_many_here_1), .v ((eL (eT4 PyData.int PyData.int (eP PyData.int PyData.int) PyData.bool)) l_wishes_here_1), .v ((eL (eT5 PyData.int PyData.int (eP PyData.int PyData.int) (eP PyData.int PyData.int) PyData.bool)) l_roads_here_1), .v (.str l_text_1), .v ((eP (eP PyData.int (eL (eT5 PyData.int PyData.int (eP PyData.int PyData.int) (eP PyData.int PyData.int) PyData.bool))) (eL (eT4 PyData.int PyData.int (eP PyData.int PyData.int) PyData.bool))) l_due_1), .o (oTN PyData.int (eT5 PyData.int PyData.int (eP PyData.int PyData.int) (eP PyData.int PyData.int) PyData.bool) eA l_first_3), .v (.int l_number_here_1), .v ((eP (eP PyData.int (eL (eT5 PyData.int PyData.int (eP PyData.int PyData.int) (eP PyData.int PyData.int) PyData.bool))) (eL (eT4 PyData.int PyData.int (eP PyData.int PyData.int) PyData.bool))) l_other_1), .v ((eH (eL (eT5 PyData.int PyData.int (eP PyData.int PyData.int) (eP PyData.int PyData.int) PyData.bool)) (eL (eT4 PyData.int PyData.int (eP PyData.int PyData.int) PyData.bool))) l_handed_1), .v ((eP (eP PyData.int (eL (eT5 PyData.int PyData.int (eP PyData.int PyData.int) (eP PyData.int PyData.int) PyData.bool))) (eL (eT4 PyData.int PyData.int (eP PyData.int PyData.int) PyData.bool))) l_again_1)]) (ds_set (x := ((eP (eP PyData.int (eL (eT5 PyData.int PyData.int (eP PyData.int PyData.int) (eP PyData.int PyData.int) PyData.bool))) (eL (eT4 PyData.int PyData.int (eP PyData.int PyData.int) PyData.bool))) l_again_1)) (ln 10 sc_law.nd) (deC (by subst e_l_again_1; rfl) (DN.toS (v := (okvE (m_read_net l_text_1))) (dat_TN PyData.int (eT5 PyData.int PyData.int (eP PyData.int PyData.int) (eP PyData.int PyData.int) PyData.bool) (eT4 PyData.int PyData.int (eP PyData.int PyData.int) PyData.bool)) (dn_call (f := "read_net") (t := (oTN PyData.int (eT5 PyData.int PyData.int (eP PyData.int PyData.int) (eP PyData.int PyData.int) PyData.bool) (eT4 PyData.int PyData.int (eP PyData.int PyData.int) PyData.bool)) (okvE (m_read_net l_text_1))) (c_read_net.at hr) rfl (da_cons (de_v 4 (pv 4)) da_nil) ⟨l_text_1, (by first | (with_reducible exact nice_oth _) | (rw [hdu]; with_reducible exact hnc) | omega | assumption | (rw [hf1]; exact hnt) | (rw [e_l_handed_1]; exact hnt) | exact hnt | exact hws.two | exact hws.ne | (rw [htx]; exact words_len hnt) | (rw [htx]; exact hrd.2) | (rw [othS_eq]; exact hot.2.1) | (rw [othS_eq]; exact hot.2.2) | exact hrg | exact ⟨_, hnw, hws⟩ | decide), (by first | (with_reducible exact nice_oth _) | (rw [hdu]; with_reducible exact hnc) | omega | assumption | (rw [hf1]; exact hnt) | (rw [e_l_handed_1]; exact hnt) | exact hnt | exact hws.two | exact hws.ne | (rw [htx]; exact words_len hnt) | (rw [htx]; exact hrd.2) | (rw [othS_eq]; exact hot.2.1) | (rw [othS_eq]; exact hot.2.2) | exact hrg | exact ⟨_, hnw, hws⟩ | decide), rfl, resEO_okv (by first | (rw [htx, hrd.1]; rfl) | (rw [othS_eq, hot.1]; rfl))⟩)))) ?_
  have ha1 : l_again_1 = ((l_many_here_1, l_roads_here_1), l_wishes_here_1) := by rw [e_l_again_1, htx, hrd.1]; rfl
  refine ds_freezeS 6 (dat_TN PyData.int (eT5 PyData.int PyData.int (eP PyData.int PyData.int) (eP PyData.int PyData.int) PyData.bool) eA) (E' := [.v ((eL PyData.int) l_script), .v (.int l_many_here_1), .v ((eL (eT4 PyData.int PyData.int (eP PyData.int PyData.int) PyData.bool)) l_wishes_here_1), .v ((eL (eT5 PyData.int PyData.int (eP PyData.int PyData.int) (eP PyData.int PyData.int) PyData.bool)) l_roads_here_1), .v (.str l_text_1), .v ((eP (eP PyData.int (eL (eT5 PyData.int PyData.int (eP PyData.int PyData.int) (eP PyData.int PyData.int) PyData.bool))) (eL (eT4 PyData.int PyData.int (eP PyData.int PyData.int) PyData.bool))) l_due_1), .v ((eP (eP PyData.int (eL (eT5 PyData.int PyData.int (eP PyData.int PyData.int) (eP PyData.int PyData.int) PyData.bool))) (eL eA)) l_first_3), .v (.int l_number_here_1), .v ((eP (eP PyData.int (eL (eT5 PyData.int PyData.int (eP PyData.int PyData.int) (eP PyData.int PyData.int) PyData.bool))) (eL (eT4 PyData.int PyData.int (eP PyData.int PyData.int) PyData.bool))) l_other_1), .v ((eH (eL (eT5 PyData.int PyData.int (eP PyData.int PyData.int) (eP PyData.int PyData.int) PyData.bool)) (eL (eT4 PyData.int PyData.int (eP PyData.int PyData.int) PyData.bool))) l_handed_1), .v ((eP (eP PyData.int (eL (eT5 PyData.int PyData.int (eP PyData.int PyData.int) (eP PyData.int PyData.int) PyData.bool))) (eL (eT4 PyData.int PyData.int (eP PyData.int PyData.int) PyData.bool))) l_again_1)]) rfl rfl ?_
  refine ds_ifr (DW.toT (dw_or (dt_not (dt_val (de_call (f := "_law_alike") (c_l_alike.at hr) rfl (da_cons (de_v 10 (pv 10)) (da_cons (de_v 5 (pv 5)) da_nil)) ⟨((eP (eP PyData.int (eL (eT5 PyData.int PyData.int (eP PyData.int PyData.int) (eP PyData.int PyData.int) PyData.bool))) (eL (eT4 PyData.int PyData.int (eP PyData.int PyData.int) PyData.bool))) l_again_1), ((eP (eP PyData.int (eL (eT5 PyData.int PyData.int (eP PyData.int PyData.int) (eP PyData.int PyData.int) PyData.bool))) (eL (eT4 PyData.int PyData.int (eP PyData.int PyData.int) PyData.bool))) l_due_1), (by first | (with_reducible exact nice_oth _) | (rw [hdu]; with_reducible exact hnc) | omega | assumption | (rw [hf1]; exact hnt) | (rw [e_l_handed_1]; exact hnt) | exact hnt | exact hws.two | exact hws.ne | (rw [htx]; exact words_len hnt) | (rw [htx]; exact hrd.2) | (rw [othS_eq]; exact hot.2.1) | (rw [othS_eq]; exact hot.2.2) | exact hrg | exact ⟨_, hnw, hws⟩ | decide), rfl, rfl⟩))) (fun h_3 => by have q := h_3; (try simp only [eqD_t, eqD_f, decide_eq_true_eq, decide_eq_false_iff_not, Bool.not_eq_true', Bool.not_eq_false', Bool.and_eq_true, Bool.or_eq_true, Bool.and_eq_false_iff, Bool.or_eq_false_iff, Bool.not_true, Bool.not_false, Bool.not_not, Decidable.not_not] at q); exact (dw_or1 (dt_neD hr.units (de_v 6 (pv 6)) (DN.toPL (f := (eP PyData.int (eL eA))) (g := eA) (v := ((l_many_here_1, ([] : (List PySem.PyData))), ((l_wishes_here_1.map (eT4 PyData.int PyData.int (eP PyData.int PyData.int) PyData.bool)) ++ (([(1 : Int)] : (List Int)).map PyData.int)))) (dn_pair (f := (eP PyData.int (eL eA))) (g := eA) (x := (l_many_here_1, ([] : (List PySem.PyData)))) (ys := ((l_wishes_here_1.map (eT4 PyData.int PyData.int (eP PyData.int PyData.int) PyData.bool)) ++ (([(1 : Int)] : (List Int)).map PyData.int))) (de_tup (da_cons (de_v 1 (pv 1)) (da_cons (DN.toL (dn_lst da_nil)) da_nil))) (dn_catL (deC (eL_any (eT4 PyData.int PyData.int (eP PyData.int PyData.int) PyData.bool) l_wishes_here_1) (de_v 2 (pv 2))) (deC (eL_any PyData.int ([(1 : Int)] : (List Int))) (DN.toL (f := PyData.int) (xs := ([(1 : Int)] : (List Int))) (dn_lst (da_cons de_int da_nil)))) (by rw [sizeLine_eq]; first | omega | (simp only [List.length_append, List.length_cons, List.length_nil, List.length_map, List.length_replicate]; omega))))) (by rw [e_l_first_3, e_l_first_2, hf1]; have h := (fin_ok l_many_here_1 l_wishes_here_1).1; rw [← fin_a] at h; exact h) (by have h := (fin_ok l_many_here_1 l_wishes_here_1).1; rw [← fin_b] at h; exact h) (by rw [e_l_first_3, e_l_first_2, hf1]; have h := (fin_ok l_many_here_1 l_wishes_here_1).2.1; rw [← fin_a] at h; exact h) (by have h := (fin_ok l_many_here_1 l_wishes_here_1).2.1; rw [← fin_b] at h; exact h)))))) (fun c_4 => ?_) (fun c_4 => ?_)
  · have q_c_4 := c_4
    try simp only [eqD_t, eqD_f, decide_eq_true_eq, decide_eq_false_iff_not, Bool.not_eq_true', Bool.not_eq_false', Bool.and_eq_true, Bool.or_eq_true, Bool.and_eq_false_iff, Bool.or_eq_false_iff, Bool.not_true, Bool.not_false, Bool.not_not, Decidable.not_not] at q_c_4
    exact ds_retD de_bl (.inl (by first | exact (law_c1 hf1 hdu htx hnc c_1).elim | exact (law_c2 ho1 c_2).elim | exact (law_c3 e_l_handed_1 htx c_3).elim | exact (law_c4 ha1 hdu hnc (by rw [e_l_first_3, e_l_first_2, hf1]) c_4).elim | (rw [longer_true hm hnw hws hrg]; rfl)))
  have q_c_4 := c_4
  try simp only [eqD_t, eqD_f, decide_eq_true_eq, decide_eq_false_iff_not, Bool.not_eq_true', Bool.not_eq_false', Bool.and_eq_true, Bool.or_eq_true, Bool.and_eq_false_iff, Bool.or_eq_false_iff, Bool.not_true, Bool.not_false, Bool.not_not, Decidable.not_not] at q_c_4
  exact ds_retD (de_call (f := "_law_longer") (c_l_longer.at hr) rfl (da_cons (de_v 0 (pv 0)) (da_cons (de_v 1 (pv 1)) (da_cons (de_v 3 (pv 3)) (da_cons (de_v 2 (pv 2)) da_nil)))) ⟨l_script, l_many_here_1, l_roads_here_1, l_wishes_here_1, (by first | (with_reducible exact nice_oth _) | (rw [hdu]; with_reducible exact hnc) | omega | assumption | (rw [hf1]; exact hnt) | (rw [e_l_handed_1]; exact hnt) | exact hnt | exact hws.two | exact hws.ne | (rw [htx]; exact words_len hnt) | (rw [htx]; exact hrd.2) | (rw [othS_eq]; exact hot.2.1) | (rw [othS_eq]; exact hot.2.2) | exact hrg | exact ⟨_, hnw, hws⟩ | decide), (by first | (with_reducible exact nice_oth _) | (rw [hdu]; with_reducible exact hnc) | omega | assumption | (rw [hf1]; exact hnt) | (rw [e_l_handed_1]; exact hnt) | exact hnt | exact hws.two | exact hws.ne | (rw [htx]; exact words_len hnt) | (rw [htx]; exact hrd.2) | (rw [othS_eq]; exact hot.2.1) | (rw [othS_eq]; exact hot.2.2) | exact hrg | exact ⟨_, hnw, hws⟩ | decide), (by first | (with_reducible exact nice_oth _) | (rw [hdu]; with_reducible exact hnc) | omega | assumption | (rw [hf1]; exact hnt) | (rw [e_l_handed_1]; exact hnt) | exact hnt | exact hws.two | exact hws.ne | (rw [htx]; exact words_len hnt) | (rw [htx]; exact hrd.2) | (rw [othS_eq]; exact hot.2.1) | (rw [othS_eq]; exact hot.2.2) | exact hrg | exact ⟨_, hnw, hws⟩ | decide), (by first | (with_reducible exact nice_oth _) | (rw [hdu]; with_reducible exact hnc) | omega | assumption | (rw [hf1]; exact hnt) | (rw [e_l_handed_1]; exact hnt) | exact hnt | exact hws.two | exact hws.ne | (rw [htx]; exact words_len hnt) | (rw [htx]; exact hrd.2) | (rw [othS_eq]; exact hot.2.1) | (rw [othS_eq]; exact hot.2.2) | exact hrg | exact ⟨_, hnw, hws⟩ | decide), rfl, rfl⟩) (.inl (by first | exact (law_c1 hf1 hdu htx hnc c_1).elim | exact (law_c2 ho1 c_2).elim | exact (law_c3 e_l_handed_1 htx c_3).elim | exact (law_c4 ha1 hdu hnc (by rw [e_l_first_3, e_l_first_2, hf1]) c_4).elim | (rw [longer_true hm hnw hws hrg]; rfl)))
theorem law_ok {ns : List Int} (_ : ns.length ≤ 63) : m_law ns = true := rfl
end
theorem all_mk {l : PySem.W.OpenLaw} {w : World} {K : PySem.W.Frag} {h : Heap} {mg : Str → Option Value} {fa : Addr} (X : K.In h) (G : h.Ns mainGlobals mg) (hfa : mg "law" = some (.ref fa))
    {C2 : Addr}
    {C3 : Addr}
    {C4 : Addr}
    {C5 : Addr}
    {C9 : Addr}
    {C10 : Addr}
    {tk_FIGURES : Tok}
    {tk_LONGEST : Tok}
    {tk_MOST_PLACES : Tok}
    {tk_MOST_ROADS : Tok}
    {tk_MOST_WAYS : Tok}
    {tk_MOST_WISHES : Tok}
    {f_is_whole : Addr} {od_is_whole an_is_whole : Option Addr} {sl_is_whole : Array (Option Value)} {oc_is_whole kV_is_whole dc_is_whole pm_is_whole cd_is_whole ct_is_whole : Value}
    {f_common_part : Addr} {od_common_part an_common_part : Option Addr} {sl_common_part : Array (Option Value)} {oc_common_part kV_common_part dc_common_part pm_common_part cd_common_part ct_common_part : Value}
    {f_is_fraction : Addr} {od_is_fraction an_is_fraction : Option Addr} {sl_is_fraction : Array (Option Value)} {oc_is_fraction kV_is_fraction dc_is_fraction pm_is_fraction cd_is_fraction ct_is_fraction : Value}
    {f_is_place : Addr} {od_is_place an_is_place : Option Addr} {sl_is_place : Array (Option Value)} {oc_is_place kV_is_place dc_is_place pm_is_place cd_is_place ct_is_place : Value}
    {f_two_places : Addr} {od_two_places an_two_places : Option Addr} {sl_two_places : Array (Option Value)} {oc_two_places kV_two_places dc_two_places pm_two_places cd_two_places ct_two_places : Value}
    {f_from_nought : Addr} {od_from_nought an_from_nought : Option Addr} {sl_from_nought : Array (Option Value)} {oc_from_nought kV_from_nought dc_from_nought pm_from_nought cd_from_nought ct_from_nought : Value}
    {f_road_fits : Addr} {od_road_fits an_road_fits : Option Addr} {sl_road_fits : Array (Option Value)} {oc_road_fits kV_road_fits dc_road_fits pm_road_fits cd_road_fits ct_road_fits : Value}
    {f_made_net : Addr} {od_made_net an_made_net : Option Addr} {sl_made_net : Array (Option Value)} {oc_made_net kV_made_net dc_made_net pm_made_net cd_made_net ct_made_net : Value}
    {f_usable_roads : Addr} {od_usable_roads an_usable_roads : Option Addr} {sl_usable_roads : Array (Option Value)} {oc_usable_roads kV_usable_roads dc_usable_roads pm_usable_roads cd_usable_roads ct_usable_roads : Value}
    {f_reached_from : Addr} {od_reached_from an_reached_from : Option Addr} {sl_reached_from : Array (Option Value)} {oc_reached_from kV_reached_from dc_reached_from pm_reached_from cd_reached_from ct_reached_from : Value}
    {f_ways_between : Addr} {od_ways_between an_ways_between : Option Addr} {sl_ways_between : Array (Option Value)} {oc_ways_between kV_ways_between dc_ways_between pm_ways_between cd_ways_between ct_ways_between : Value}
    {f_ask_way : Addr} {od_ask_way an_ask_way : Option Addr} {sl_ask_way : Array (Option Value)} {oc_ask_way kV_ask_way dc_ask_way pm_ask_way cd_ask_way ct_ask_way : Value}
    {f_wish_fits : Addr} {od_wish_fits an_wish_fits : Option Addr} {sl_wish_fits : Array (Option Value)} {oc_wish_fits kV_wish_fits dc_wish_fits pm_wish_fits cd_wish_fits ct_wish_fits : Value}
    {f_ways_of : Addr} {od_ways_of an_ways_of : Option Addr} {sl_ways_of : Array (Option Value)} {oc_ways_of kV_ways_of dc_ways_of pm_ways_of cd_ways_of ct_ways_of : Value}
    {f_made_wishes : Addr} {od_made_wishes an_made_wishes : Option Addr} {sl_made_wishes : Array (Option Value)} {oc_made_wishes kV_made_wishes dc_made_wishes pm_made_wishes cd_made_wishes ct_made_wishes : Value}
    {f_whole_read : Addr} {od_whole_read an_whole_read : Option Addr} {sl_whole_read : Array (Option Value)} {oc_whole_read kV_whole_read dc_whole_read pm_whole_read cd_whole_read ct_whole_read : Value}
    {f_fraction_read : Addr} {od_fraction_read an_fraction_read : Option Addr} {sl_fraction_read : Array (Option Value)} {oc_fraction_read kV_fraction_read dc_fraction_read pm_fraction_read cd_fraction_read ct_fraction_read : Value}
    {f_figure_read : Addr} {od_figure_read an_figure_read : Option Addr} {sl_figure_read : Array (Option Value)} {oc_figure_read kV_figure_read dc_figure_read pm_figure_read cd_figure_read ct_figure_read : Value}
    {f_row_read : Addr} {od_row_read an_row_read : Option Addr} {sl_row_read : Array (Option Value)} {oc_row_read kV_row_read dc_row_read pm_row_read cd_row_read ct_row_read : Value}
    {f_places_read : Addr} {od_places_read an_places_read : Option Addr} {sl_places_read : Array (Option Value)} {oc_places_read kV_places_read dc_places_read pm_places_read cd_places_read ct_places_read : Value}
    {f_read_net : Addr} {od_read_net an_read_net : Option Addr} {sl_read_net : Array (Option Value)} {oc_read_net kV_read_net dc_read_net pm_read_net cd_read_net ct_read_net : Value}
    {f_fraction_text : Addr} {od_fraction_text an_fraction_text : Option Addr} {sl_fraction_text : Array (Option Value)} {oc_fraction_text kV_fraction_text dc_fraction_text pm_fraction_text cd_fraction_text ct_fraction_text : Value}
    {f_net_text : Addr} {od_net_text an_net_text : Option Addr} {sl_net_text : Array (Option Value)} {oc_net_text kV_net_text dc_net_text pm_net_text cd_net_text ct_net_text : Value}
    {f_l_whole : Addr} {od_l_whole an_l_whole : Option Addr} {sl_l_whole : Array (Option Value)} {oc_l_whole kV_l_whole dc_l_whole pm_l_whole cd_l_whole ct_l_whole : Value}
    {f_l_cell : Addr} {od_l_cell an_l_cell : Option Addr} {sl_l_cell : Array (Option Value)} {oc_l_cell kV_l_cell dc_l_cell pm_l_cell cd_l_cell ct_l_cell : Value}
    {f_l_mixed : Addr} {od_l_mixed an_l_mixed : Option Addr} {sl_l_mixed : Array (Option Value)} {oc_l_mixed kV_l_mixed dc_l_mixed pm_l_mixed cd_l_mixed ct_l_mixed : Value}
    {f_l_divisor : Addr} {od_l_divisor an_l_divisor : Option Addr} {sl_l_divisor : Array (Option Value)} {oc_l_divisor kV_l_divisor dc_l_divisor pm_l_divisor cd_l_divisor ct_l_divisor : Value}
    {f_l_fraction : Addr} {od_l_fraction an_l_fraction : Option Addr} {sl_l_fraction : Array (Option Value)} {oc_l_fraction kV_l_fraction dc_l_fraction pm_l_fraction cd_l_fraction ct_l_fraction : Value}
    {f_l_listed : Addr} {od_l_listed an_l_listed : Option Addr} {sl_l_listed : Array (Option Value)} {oc_l_listed kV_l_listed dc_l_listed pm_l_listed cd_l_listed ct_l_listed : Value}
    {f_l_many : Addr} {od_l_many an_l_many : Option Addr} {sl_l_many : Array (Option Value)} {oc_l_many kV_l_many dc_l_many pm_l_many cd_l_many ct_l_many : Value}
    {f_l_wishes : Addr} {od_l_wishes an_l_wishes : Option Addr} {sl_l_wishes : Array (Option Value)} {oc_l_wishes kV_l_wishes dc_l_wishes pm_l_wishes cd_l_wishes ct_l_wishes : Value}
    {f_l_road : Addr} {od_l_road an_l_road : Option Addr} {sl_l_road : Array (Option Value)} {oc_l_road kV_l_road dc_l_road pm_l_road cd_l_road ct_l_road : Value}
    {f_l_begun : Addr} {od_l_begun an_l_begun : Option Addr} {sl_l_begun : Array (Option Value)} {oc_l_begun kV_l_begun dc_l_begun pm_l_begun cd_l_begun ct_l_begun : Value}
    {f_l_roads : Addr} {od_l_roads an_l_roads : Option Addr} {sl_l_roads : Array (Option Value)} {oc_l_roads kV_l_roads dc_l_roads pm_l_roads cd_l_roads ct_l_roads : Value}
    {f_l_number : Addr} {od_l_number an_l_number : Option Addr} {sl_l_number : Array (Option Value)} {oc_l_number kV_l_number dc_l_number pm_l_number cd_l_number ct_l_number : Value}
    {f_l_words : Addr} {od_l_words an_l_words : Option Addr} {sl_l_words : Array (Option Value)} {oc_l_words kV_l_words dc_l_words pm_l_words cd_l_words ct_l_words : Value}
    {f_l_alike : Addr} {od_l_alike an_l_alike : Option Addr} {sl_l_alike : Array (Option Value)} {oc_l_alike kV_l_alike dc_l_alike pm_l_alike cd_l_alike ct_l_alike : Value}
    {f_l_shown : Addr} {od_l_shown an_l_shown : Option Addr} {sl_l_shown : Array (Option Value)} {oc_l_shown kV_l_shown dc_l_shown pm_l_shown cd_l_shown ct_l_shown : Value}
    {f_l_longer : Addr} {od_l_longer an_l_longer : Option Addr} {sl_l_longer : Array (Option Value)} {oc_l_longer kV_l_longer dc_l_longer pm_l_longer cd_l_longer ct_l_longer : Value}
    {f_law : Addr} {od_law an_law : Option Addr} {sl_law : Array (Option Value)} {oc_law kV_law dc_law pm_law cd_law ct_law : Value}
    {f_NoWay_init : Addr} {od_NoWay_init an_NoWay_init : Option Addr} {sl_NoWay_init : Array (Option Value)} {oc_NoWay_init kV_NoWay_init dc_NoWay_init pm_NoWay_init cd_NoWay_init ct_NoWay_init : Value}
    {f_NoText_init : Addr} {od_NoText_init an_NoText_init : Option Addr} {sl_NoText_init : Array (Option Value)} {oc_NoText_init kV_NoText_init dc_NoText_init pm_NoText_init cd_NoText_init ct_NoText_init : Value}
    (g2 : PySem.W.nsIn K mainGlobals "NoNet" = some (some (.ref C2)))
    (g3 : PySem.W.nsIn K mainGlobals "NoWish" = some (some (.ref C3)))
    (g4 : PySem.W.nsIn K mainGlobals "NoWay" = some (some (.ref C4)))
    (g5 : PySem.W.nsIn K mainGlobals "TooMany" = some (some (.ref C5)))
    (g9 : PySem.W.nsIn K mainGlobals "NoText" = some (some (.ref C9)))
    (g10 : PySem.W.nsIn K mainGlobals "RoadError" = some (some (.ref C10)))
    (z_abs : PySem.W.nsIn K mainGlobals "abs" = some none)
    (z_bool : PySem.W.nsIn K mainGlobals "bool" = some none)
    (z_enumerate : PySem.W.nsIn K mainGlobals "enumerate" = some none)
    (z_int : PySem.W.nsIn K mainGlobals "int" = some none)
    (z_isinstance : PySem.W.nsIn K mainGlobals "isinstance" = some none)
    (z_len : PySem.W.nsIn K mainGlobals "len" = some none)
    (z_list : PySem.W.nsIn K mainGlobals "list" = some none)
    (z_range : PySem.W.nsIn K mainGlobals "range" = some none)
    (z_sorted : PySem.W.nsIn K mainGlobals "sorted" = some none)
    (z_str : PySem.W.nsIn K mainGlobals "str" = some none)
    (z_sum : PySem.W.nsIn K mainGlobals "sum" = some none)
    (z_tuple : PySem.W.nsIn K mainGlobals "tuple" = some none)
    (x2 : PySem.W.excIn K C2 [.type "ValueError", .type "Exception", .type "BaseException", .type "object"] "ValueError.__new__" = true)
    (xk2 : PySem.W.keepIn K (.ref C2) = true)
    (xb2 : PySem.W.subIn K (.ref C2) (.type "BaseException") = some true)
    (xt2 : PySem.W.typeIn K (.ref C2) = some (.type "type"))
    (x3 : PySem.W.excIn K C3 [.type "ValueError", .type "Exception", .type "BaseException", .type "object"] "ValueError.__new__" = true)
    (xk3 : PySem.W.keepIn K (.ref C3) = true)
    (xb3 : PySem.W.subIn K (.ref C3) (.type "BaseException") = some true)
    (xt3 : PySem.W.typeIn K (.ref C3) = some (.type "type"))
    (x5 : PySem.W.excIn K C5 [.type "ValueError", .type "Exception", .type "BaseException", .type "object"] "ValueError.__new__" = true)
    (xk5 : PySem.W.keepIn K (.ref C5) = true)
    (xb5 : PySem.W.subIn K (.ref C5) (.type "BaseException") = some true)
    (xt5 : PySem.W.typeIn K (.ref C5) = some (.type "type"))
    (k_FIGURES : PySem.W.nsIn K mainGlobals "FIGURES" = some (some (.str ("0123456789" : PySem.Str) tk_FIGURES)))
    (k_LONGEST : PySem.W.nsIn K mainGlobals "LONGEST" = some (some (.int 18 tk_LONGEST)))
    (k_MOST_PLACES : PySem.W.nsIn K mainGlobals "MOST_PLACES" = some (some (.int 6 tk_MOST_PLACES)))
    (k_MOST_ROADS : PySem.W.nsIn K mainGlobals "MOST_ROADS" = some (some (.int 12 tk_MOST_ROADS)))
    (k_MOST_WAYS : PySem.W.nsIn K mainGlobals "MOST_WAYS" = some (some (.int 10 tk_MOST_WAYS)))
    (k_MOST_WISHES : PySem.W.nsIn K mainGlobals "MOST_WISHES" = some (some (.int 3 tk_MOST_WISHES)))
    (a_is_whole : PySem.W.nsIn K mainGlobals "is_whole" = some (some (.ref f_is_whole)))
    (l_is_whole : K.lookup f_is_whole = some ⟨oc_is_whole, od_is_whole, .func (PySem.W.fnOf "is_whole" "is_whole" (defArgs s_is_whole) (defBody s_is_whole) (defScope s_is_whole) .none kV_is_whole dc_is_whole pm_is_whole an_is_whole cd_is_whole ct_is_whole), sl_is_whole⟩)
    (c_is_whole : PySem.W.codeIn K cd_is_whole "is_whole" = true)
    (k_is_whole : PySem.W.keepIn K (.ref f_is_whole) = true)
    (a_common_part : PySem.W.nsIn K mainGlobals "common_part" = some (some (.ref f_common_part)))
    (l_common_part : K.lookup f_common_part = some ⟨oc_common_part, od_common_part, .func (PySem.W.fnOf "common_part" "common_part" (defArgs s_common_part) (defBody s_common_part) (defScope s_common_part) .none kV_common_part dc_common_part pm_common_part an_common_part cd_common_part ct_common_part), sl_common_part⟩)
    (c_common_part : PySem.W.codeIn K cd_common_part "common_part" = true)
    (k_common_part : PySem.W.keepIn K (.ref f_common_part) = true)
    (a_is_fraction : PySem.W.nsIn K mainGlobals "is_fraction" = some (some (.ref f_is_fraction)))
    (l_is_fraction : K.lookup f_is_fraction = some ⟨oc_is_fraction, od_is_fraction, .func (PySem.W.fnOf "is_fraction" "is_fraction" (defArgs s_is_fraction) (defBody s_is_fraction) (defScope s_is_fraction) .none kV_is_fraction dc_is_fraction pm_is_fraction an_is_fraction cd_is_fraction ct_is_fraction), sl_is_fraction⟩)
    (c_is_fraction : PySem.W.codeIn K cd_is_fraction "is_fraction" = true)
    (k_is_fraction : PySem.W.keepIn K (.ref f_is_fraction) = true)
    (a_is_place : PySem.W.nsIn K mainGlobals "is_place" = some (some (.ref f_is_place)))
    (l_is_place : K.lookup f_is_place = some ⟨oc_is_place, od_is_place, .func (PySem.W.fnOf "is_place" "is_place" (defArgs s_is_place) (defBody s_is_place) (defScope s_is_place) .none kV_is_place dc_is_place pm_is_place an_is_place cd_is_place ct_is_place), sl_is_place⟩)
    (c_is_place : PySem.W.codeIn K cd_is_place "is_place" = true)
    (k_is_place : PySem.W.keepIn K (.ref f_is_place) = true)
    (a_two_places : PySem.W.nsIn K mainGlobals "two_places" = some (some (.ref f_two_places)))
    (l_two_places : K.lookup f_two_places = some ⟨oc_two_places, od_two_places, .func (PySem.W.fnOf "two_places" "two_places" (defArgs s_two_places) (defBody s_two_places) (defScope s_two_places) .none kV_two_places dc_two_places pm_two_places an_two_places cd_two_places ct_two_places), sl_two_places⟩)
    (c_two_places : PySem.W.codeIn K cd_two_places "two_places" = true)
    (k_two_places : PySem.W.keepIn K (.ref f_two_places) = true)
    (a_from_nought : PySem.W.nsIn K mainGlobals "from_nought" = some (some (.ref f_from_nought)))
    (l_from_nought : K.lookup f_from_nought = some ⟨oc_from_nought, od_from_nought, .func (PySem.W.fnOf "from_nought" "from_nought" (defArgs s_from_nought) (defBody s_from_nought) (defScope s_from_nought) .none kV_from_nought dc_from_nought pm_from_nought an_from_nought cd_from_nought ct_from_nought), sl_from_nought⟩)
    (c_from_nought : PySem.W.codeIn K cd_from_nought "from_nought" = true)
    (k_from_nought : PySem.W.keepIn K (.ref f_from_nought) = true)
    (a_road_fits : PySem.W.nsIn K mainGlobals "road_fits" = some (some (.ref f_road_fits)))
    (l_road_fits : K.lookup f_road_fits = some ⟨oc_road_fits, od_road_fits, .func (PySem.W.fnOf "road_fits" "road_fits" (defArgs s_road_fits) (defBody s_road_fits) (defScope s_road_fits) .none kV_road_fits dc_road_fits pm_road_fits an_road_fits cd_road_fits ct_road_fits), sl_road_fits⟩)
    (c_road_fits : PySem.W.codeIn K cd_road_fits "road_fits" = true)
    (k_road_fits : PySem.W.keepIn K (.ref f_road_fits) = true)
    (a_made_net : PySem.W.nsIn K mainGlobals "made_net" = some (some (.ref f_made_net)))
    (l_made_net : K.lookup f_made_net = some ⟨oc_made_net, od_made_net, .func (PySem.W.fnOf "made_net" "made_net" (defArgs s_made_net) (defBody s_made_net) (defScope s_made_net) .none kV_made_net dc_made_net pm_made_net an_made_net cd_made_net ct_made_net), sl_made_net⟩)
    (c_made_net : PySem.W.codeIn K cd_made_net "made_net" = true)
    (k_made_net : PySem.W.keepIn K (.ref f_made_net) = true)
    (a_usable_roads : PySem.W.nsIn K mainGlobals "usable_roads" = some (some (.ref f_usable_roads)))
    (l_usable_roads : K.lookup f_usable_roads = some ⟨oc_usable_roads, od_usable_roads, .func (PySem.W.fnOf "usable_roads" "usable_roads" (defArgs s_usable_roads) (defBody s_usable_roads) (defScope s_usable_roads) .none kV_usable_roads dc_usable_roads pm_usable_roads an_usable_roads cd_usable_roads ct_usable_roads), sl_usable_roads⟩)
    (c_usable_roads : PySem.W.codeIn K cd_usable_roads "usable_roads" = true)
    (k_usable_roads : PySem.W.keepIn K (.ref f_usable_roads) = true)
    (a_reached_from : PySem.W.nsIn K mainGlobals "reached_from" = some (some (.ref f_reached_from)))
    (l_reached_from : K.lookup f_reached_from = some ⟨oc_reached_from, od_reached_from, .func (PySem.W.fnOf "reached_from" "reached_from" (defArgs s_reached_from) (defBody s_reached_from) (defScope s_reached_from) .none kV_reached_from dc_reached_from pm_reached_from an_reached_from cd_reached_from ct_reached_from), sl_reached_from⟩)
    (c_reached_from : PySem.W.codeIn K cd_reached_from "reached_from" = true)
    (k_reached_from : PySem.W.keepIn K (.ref f_reached_from) = true)
    (a_ways_between : PySem.W.nsIn K mainGlobals "ways_between" = some (some (.ref f_ways_between)))
    (l_ways_between : K.lookup f_ways_between = some ⟨oc_ways_between, od_ways_between, .func (PySem.W.fnOf "ways_between" "ways_between" (defArgs s_ways_between) (defBody s_ways_between) (defScope s_ways_between) .none kV_ways_between dc_ways_between pm_ways_between an_ways_between cd_ways_between ct_ways_between), sl_ways_between⟩)
    (c_ways_between : PySem.W.codeIn K cd_ways_between "ways_between" = true)
    (k_ways_between : PySem.W.keepIn K (.ref f_ways_between) = true)
    (a_ask_way : PySem.W.nsIn K mainGlobals "ask_way" = some (some (.ref f_ask_way)))
    (l_ask_way : K.lookup f_ask_way = some ⟨oc_ask_way, od_ask_way, .func (PySem.W.fnOf "ask_way" "ask_way" (defArgs s_ask_way) (defBody s_ask_way) (defScope s_ask_way) .none kV_ask_way dc_ask_way pm_ask_way an_ask_way cd_ask_way ct_ask_way), sl_ask_way⟩)
    (c_ask_way : PySem.W.codeIn K cd_ask_way "ask_way" = true)
    (k_ask_way : PySem.W.keepIn K (.ref f_ask_way) = true)
    (a_wish_fits : PySem.W.nsIn K mainGlobals "wish_fits" = some (some (.ref f_wish_fits)))
    (l_wish_fits : K.lookup f_wish_fits = some ⟨oc_wish_fits, od_wish_fits, .func (PySem.W.fnOf "wish_fits" "wish_fits" (defArgs s_wish_fits) (defBody s_wish_fits) (defScope s_wish_fits) .none kV_wish_fits dc_wish_fits pm_wish_fits an_wish_fits cd_wish_fits ct_wish_fits), sl_wish_fits⟩)
    (c_wish_fits : PySem.W.codeIn K cd_wish_fits "wish_fits" = true)
    (k_wish_fits : PySem.W.keepIn K (.ref f_wish_fits) = true)
    (a_ways_of : PySem.W.nsIn K mainGlobals "ways_of" = some (some (.ref f_ways_of)))
    (l_ways_of : K.lookup f_ways_of = some ⟨oc_ways_of, od_ways_of, .func (PySem.W.fnOf "ways_of" "ways_of" (defArgs s_ways_of) (defBody s_ways_of) (defScope s_ways_of) .none kV_ways_of dc_ways_of pm_ways_of an_ways_of cd_ways_of ct_ways_of), sl_ways_of⟩)
    (c_ways_of : PySem.W.codeIn K cd_ways_of "ways_of" = true)
    (k_ways_of : PySem.W.keepIn K (.ref f_ways_of) = true)
    (a_made_wishes : PySem.W.nsIn K mainGlobals "made_wishes" = some (some (.ref f_made_wishes)))
    (l_made_wishes : K.lookup f_made_wishes = some ⟨oc_made_wishes, od_made_wishes, .func (PySem.W.fnOf "made_wishes" "made_wishes" (defArgs s_made_wishes) (defBody s_made_wishes) (defScope s_made_wishes) .none kV_made_wishes dc_made_wishes pm_made_wishes an_made_wishes cd_made_wishes ct_made_wishes), sl_made_wishes⟩)
    (c_made_wishes : PySem.W.codeIn K cd_made_wishes "made_wishes" = true)
    (k_made_wishes : PySem.W.keepIn K (.ref f_made_wishes) = true)
    (a_whole_read : PySem.W.nsIn K mainGlobals "whole_read" = some (some (.ref f_whole_read)))
    (l_whole_read : K.lookup f_whole_read = some ⟨oc_whole_read, od_whole_read, .func (PySem.W.fnOf "whole_read" "whole_read" (defArgs s_whole_read) (defBody s_whole_read) (defScope s_whole_read) .none kV_whole_read dc_whole_read pm_whole_read an_whole_read cd_whole_read ct_whole_read), sl_whole_read⟩)
    (c_whole_read : PySem.W.codeIn K cd_whole_read "whole_read" = true)
    (k_whole_read : PySem.W.keepIn K (.ref f_whole_read) = true)
    (a_fraction_read : PySem.W.nsIn K mainGlobals "fraction_read" = some (some (.ref f_fraction_read)))
    (l_fraction_read : K.lookup f_fraction_read = some ⟨oc_fraction_read, od_fraction_read, .func (PySem.W.fnOf "fraction_read" "fraction_read" (defArgs s_fraction_read) (defBody s_fraction_read) (defScope s_fraction_read) .none kV_fraction_read dc_fraction_read pm_fraction_read an_fraction_read cd_fraction_read ct_fraction_read), sl_fraction_read⟩)
    (c_fraction_read : PySem.W.codeIn K cd_fraction_read "fraction_read" = true)
    (k_fraction_read : PySem.W.keepIn K (.ref f_fraction_read) = true)
    (a_figure_read : PySem.W.nsIn K mainGlobals "figure_read" = some (some (.ref f_figure_read)))
    (l_figure_read : K.lookup f_figure_read = some ⟨oc_figure_read, od_figure_read, .func (PySem.W.fnOf "figure_read" "figure_read" (defArgs s_figure_read) (defBody s_figure_read) (defScope s_figure_read) .none kV_figure_read dc_figure_read pm_figure_read an_figure_read cd_figure_read ct_figure_read), sl_figure_read⟩)
    (c_figure_read : PySem.W.codeIn K cd_figure_read "figure_read" = true)
    (k_figure_read : PySem.W.keepIn K (.ref f_figure_read) = true)
    (a_row_read : PySem.W.nsIn K mainGlobals "row_read" = some (some (.ref f_row_read)))
    (l_row_read : K.lookup f_row_read = some ⟨oc_row_read, od_row_read, .func (PySem.W.fnOf "row_read" "row_read" (defArgs s_row_read) (defBody s_row_read) (defScope s_row_read) .none kV_row_read dc_row_read pm_row_read an_row_read cd_row_read ct_row_read), sl_row_read⟩)
    (c_row_read : PySem.W.codeIn K cd_row_read "row_read" = true)
    (k_row_read : PySem.W.keepIn K (.ref f_row_read) = true)
    (a_places_read : PySem.W.nsIn K mainGlobals "places_read" = some (some (.ref f_places_read)))
    (l_places_read : K.lookup f_places_read = some ⟨oc_places_read, od_places_read, .func (PySem.W.fnOf "places_read" "places_read" (defArgs s_places_read) (defBody s_places_read) (defScope s_places_read) .none kV_places_read dc_places_read pm_places_read an_places_read cd_places_read ct_places_read), sl_places_read⟩)
    (c_places_read : PySem.W.codeIn K cd_places_read "places_read" = true)
    (k_places_read : PySem.W.keepIn K (.ref f_places_read) = true)
    (a_read_net : PySem.W.nsIn K mainGlobals "read_net" = some (some (.ref f_read_net)))
    (l_read_net : K.lookup f_read_net = some ⟨oc_read_net, od_read_net, .func (PySem.W.fnOf "read_net" "read_net" (defArgs s_read_net) (defBody s_read_net) (defScope s_read_net) .none kV_read_net dc_read_net pm_read_net an_read_net cd_read_net ct_read_net), sl_read_net⟩)
    (c_read_net : PySem.W.codeIn K cd_read_net "read_net" = true)
    (k_read_net : PySem.W.keepIn K (.ref f_read_net) = true)
    (a_fraction_text : PySem.W.nsIn K mainGlobals "fraction_text" = some (some (.ref f_fraction_text)))
    (l_fraction_text : K.lookup f_fraction_text = some ⟨oc_fraction_text, od_fraction_text, .func (PySem.W.fnOf "fraction_text" "fraction_text" (defArgs s_fraction_text) (defBody s_fraction_text) (defScope s_fraction_text) .none kV_fraction_text dc_fraction_text pm_fraction_text an_fraction_text cd_fraction_text ct_fraction_text), sl_fraction_text⟩)
    (c_fraction_text : PySem.W.codeIn K cd_fraction_text "fraction_text" = true)
    (k_fraction_text : PySem.W.keepIn K (.ref f_fraction_text) = true)
    (a_net_text : PySem.W.nsIn K mainGlobals "net_text" = some (some (.ref f_net_text)))
    (l_net_text : K.lookup f_net_text = some ⟨oc_net_text, od_net_text, .func (PySem.W.fnOf "net_text" "net_text" (defArgs s_net_text) (defBody s_net_text) (defScope s_net_text) .none kV_net_text dc_net_text pm_net_text an_net_text cd_net_text ct_net_text), sl_net_text⟩)
    (c_net_text : PySem.W.codeIn K cd_net_text "net_text" = true)
    (k_net_text : PySem.W.keepIn K (.ref f_net_text) = true)
    (a_l_whole : PySem.W.nsIn K mainGlobals "_law_whole" = some (some (.ref f_l_whole)))
    (l_l_whole : K.lookup f_l_whole = some ⟨oc_l_whole, od_l_whole, .func (PySem.W.fnOf "_law_whole" "_law_whole" (defArgs s_l_whole) (defBody s_l_whole) (defScope s_l_whole) .none kV_l_whole dc_l_whole pm_l_whole an_l_whole cd_l_whole ct_l_whole), sl_l_whole⟩)
    (c_l_whole : PySem.W.codeIn K cd_l_whole "_law_whole" = true)
    (k_l_whole : PySem.W.keepIn K (.ref f_l_whole) = true)
    (a_l_cell : PySem.W.nsIn K mainGlobals "_law_cell" = some (some (.ref f_l_cell)))
    (l_l_cell : K.lookup f_l_cell = some ⟨oc_l_cell, od_l_cell, .func (PySem.W.fnOf "_law_cell" "_law_cell" (defArgs s_l_cell) (defBody s_l_cell) (defScope s_l_cell) .none kV_l_cell dc_l_cell pm_l_cell an_l_cell cd_l_cell ct_l_cell), sl_l_cell⟩)
    (c_l_cell : PySem.W.codeIn K cd_l_cell "_law_cell" = true)
    (k_l_cell : PySem.W.keepIn K (.ref f_l_cell) = true)
    (a_l_mixed : PySem.W.nsIn K mainGlobals "_law_mixed" = some (some (.ref f_l_mixed)))
    (l_l_mixed : K.lookup f_l_mixed = some ⟨oc_l_mixed, od_l_mixed, .func (PySem.W.fnOf "_law_mixed" "_law_mixed" (defArgs s_l_mixed) (defBody s_l_mixed) (defScope s_l_mixed) .none kV_l_mixed dc_l_mixed pm_l_mixed an_l_mixed cd_l_mixed ct_l_mixed), sl_l_mixed⟩)
    (c_l_mixed : PySem.W.codeIn K cd_l_mixed "_law_mixed" = true)
    (k_l_mixed : PySem.W.keepIn K (.ref f_l_mixed) = true)
    (a_l_divisor : PySem.W.nsIn K mainGlobals "_law_divisor" = some (some (.ref f_l_divisor)))
    (l_l_divisor : K.lookup f_l_divisor = some ⟨oc_l_divisor, od_l_divisor, .func (PySem.W.fnOf "_law_divisor" "_law_divisor" (defArgs s_l_divisor) (defBody s_l_divisor) (defScope s_l_divisor) .none kV_l_divisor dc_l_divisor pm_l_divisor an_l_divisor cd_l_divisor ct_l_divisor), sl_l_divisor⟩)
    (c_l_divisor : PySem.W.codeIn K cd_l_divisor "_law_divisor" = true)
    (k_l_divisor : PySem.W.keepIn K (.ref f_l_divisor) = true)
    (a_l_fraction : PySem.W.nsIn K mainGlobals "_law_fraction" = some (some (.ref f_l_fraction)))
    (l_l_fraction : K.lookup f_l_fraction = some ⟨oc_l_fraction, od_l_fraction, .func (PySem.W.fnOf "_law_fraction" "_law_fraction" (defArgs s_l_fraction) (defBody s_l_fraction) (defScope s_l_fraction) .none kV_l_fraction dc_l_fraction pm_l_fraction an_l_fraction cd_l_fraction ct_l_fraction), sl_l_fraction⟩)
    (c_l_fraction : PySem.W.codeIn K cd_l_fraction "_law_fraction" = true)
    (k_l_fraction : PySem.W.keepIn K (.ref f_l_fraction) = true)
    (a_l_listed : PySem.W.nsIn K mainGlobals "_law_listed" = some (some (.ref f_l_listed)))
    (l_l_listed : K.lookup f_l_listed = some ⟨oc_l_listed, od_l_listed, .func (PySem.W.fnOf "_law_listed" "_law_listed" (defArgs s_l_listed) (defBody s_l_listed) (defScope s_l_listed) .none kV_l_listed dc_l_listed pm_l_listed an_l_listed cd_l_listed ct_l_listed), sl_l_listed⟩)
    (c_l_listed : PySem.W.codeIn K cd_l_listed "_law_listed" = true)
    (k_l_listed : PySem.W.keepIn K (.ref f_l_listed) = true)
    (a_l_many : PySem.W.nsIn K mainGlobals "_law_many" = some (some (.ref f_l_many)))
    (l_l_many : K.lookup f_l_many = some ⟨oc_l_many, od_l_many, .func (PySem.W.fnOf "_law_many" "_law_many" (defArgs s_l_many) (defBody s_l_many) (defScope s_l_many) .none kV_l_many dc_l_many pm_l_many an_l_many cd_l_many ct_l_many), sl_l_many⟩)
    (c_l_many : PySem.W.codeIn K cd_l_many "_law_many" = true)
    (k_l_many : PySem.W.keepIn K (.ref f_l_many) = true)
    (a_l_wishes : PySem.W.nsIn K mainGlobals "_law_wishes" = some (some (.ref f_l_wishes)))
    (l_l_wishes : K.lookup f_l_wishes = some ⟨oc_l_wishes, od_l_wishes, .func (PySem.W.fnOf "_law_wishes" "_law_wishes" (defArgs s_l_wishes) (defBody s_l_wishes) (defScope s_l_wishes) .none kV_l_wishes dc_l_wishes pm_l_wishes an_l_wishes cd_l_wishes ct_l_wishes), sl_l_wishes⟩)
    (c_l_wishes : PySem.W.codeIn K cd_l_wishes "_law_wishes" = true)
    (k_l_wishes : PySem.W.keepIn K (.ref f_l_wishes) = true)
    (a_l_road : PySem.W.nsIn K mainGlobals "_law_road" = some (some (.ref f_l_road)))
    (l_l_road : K.lookup f_l_road = some ⟨oc_l_road, od_l_road, .func (PySem.W.fnOf "_law_road" "_law_road" (defArgs s_l_road) (defBody s_l_road) (defScope s_l_road) .none kV_l_road dc_l_road pm_l_road an_l_road cd_l_road ct_l_road), sl_l_road⟩)
    (c_l_road : PySem.W.codeIn K cd_l_road "_law_road" = true)
    (k_l_road : PySem.W.keepIn K (.ref f_l_road) = true)
    (a_l_begun : PySem.W.nsIn K mainGlobals "_law_begun" = some (some (.ref f_l_begun)))
    (l_l_begun : K.lookup f_l_begun = some ⟨oc_l_begun, od_l_begun, .func (PySem.W.fnOf "_law_begun" "_law_begun" (defArgs s_l_begun) (defBody s_l_begun) (defScope s_l_begun) .none kV_l_begun dc_l_begun pm_l_begun an_l_begun cd_l_begun ct_l_begun), sl_l_begun⟩)
    (c_l_begun : PySem.W.codeIn K cd_l_begun "_law_begun" = true)
    (k_l_begun : PySem.W.keepIn K (.ref f_l_begun) = true)
    (a_l_roads : PySem.W.nsIn K mainGlobals "_law_roads" = some (some (.ref f_l_roads)))
    (l_l_roads : K.lookup f_l_roads = some ⟨oc_l_roads, od_l_roads, .func (PySem.W.fnOf "_law_roads" "_law_roads" (defArgs s_l_roads) (defBody s_l_roads) (defScope s_l_roads) .none kV_l_roads dc_l_roads pm_l_roads an_l_roads cd_l_roads ct_l_roads), sl_l_roads⟩)
    (c_l_roads : PySem.W.codeIn K cd_l_roads "_law_roads" = true)
    (k_l_roads : PySem.W.keepIn K (.ref f_l_roads) = true)
    (a_l_number : PySem.W.nsIn K mainGlobals "_law_number" = some (some (.ref f_l_number)))
    (l_l_number : K.lookup f_l_number = some ⟨oc_l_number, od_l_number, .func (PySem.W.fnOf "_law_number" "_law_number" (defArgs s_l_number) (defBody s_l_number) (defScope s_l_number) .none kV_l_number dc_l_number pm_l_number an_l_number cd_l_number ct_l_number), sl_l_number⟩)
    (c_l_number : PySem.W.codeIn K cd_l_number "_law_number" = true)
    (k_l_number : PySem.W.keepIn K (.ref f_l_number) = true)
    (a_l_words : PySem.W.nsIn K mainGlobals "_law_words" = some (some (.ref f_l_words)))
    (l_l_words : K.lookup f_l_words = some ⟨oc_l_words, od_l_words, .func (PySem.W.fnOf "_law_words" "_law_words" (defArgs s_l_words) (defBody s_l_words) (defScope s_l_words) .none kV_l_words dc_l_words pm_l_words an_l_words cd_l_words ct_l_words), sl_l_words⟩)
    (c_l_words : PySem.W.codeIn K cd_l_words "_law_words" = true)
    (k_l_words : PySem.W.keepIn K (.ref f_l_words) = true)
    (a_l_alike : PySem.W.nsIn K mainGlobals "_law_alike" = some (some (.ref f_l_alike)))
    (l_l_alike : K.lookup f_l_alike = some ⟨oc_l_alike, od_l_alike, .func (PySem.W.fnOf "_law_alike" "_law_alike" (defArgs s_l_alike) (defBody s_l_alike) (defScope s_l_alike) .none kV_l_alike dc_l_alike pm_l_alike an_l_alike cd_l_alike ct_l_alike), sl_l_alike⟩)
    (c_l_alike : PySem.W.codeIn K cd_l_alike "_law_alike" = true)
    (k_l_alike : PySem.W.keepIn K (.ref f_l_alike) = true)
    (a_l_shown : PySem.W.nsIn K mainGlobals "_law_shown" = some (some (.ref f_l_shown)))
    (l_l_shown : K.lookup f_l_shown = some ⟨oc_l_shown, od_l_shown, .func (PySem.W.fnOf "_law_shown" "_law_shown" (defArgs s_l_shown) (defBody s_l_shown) (defScope s_l_shown) .none kV_l_shown dc_l_shown pm_l_shown an_l_shown cd_l_shown ct_l_shown), sl_l_shown⟩)
    (c_l_shown : PySem.W.codeIn K cd_l_shown "_law_shown" = true)
    (k_l_shown : PySem.W.keepIn K (.ref f_l_shown) = true)
    (a_l_longer : PySem.W.nsIn K mainGlobals "_law_longer" = some (some (.ref f_l_longer)))
    (l_l_longer : K.lookup f_l_longer = some ⟨oc_l_longer, od_l_longer, .func (PySem.W.fnOf "_law_longer" "_law_longer" (defArgs s_l_longer) (defBody s_l_longer) (defScope s_l_longer) .none kV_l_longer dc_l_longer pm_l_longer an_l_longer cd_l_longer ct_l_longer), sl_l_longer⟩)
    (c_l_longer : PySem.W.codeIn K cd_l_longer "_law_longer" = true)
    (k_l_longer : PySem.W.keepIn K (.ref f_l_longer) = true)
    (a_law : PySem.W.nsIn K mainGlobals "law" = some (some (.ref f_law)))
    (l_law : K.lookup f_law = some ⟨oc_law, od_law, .func (PySem.W.fnOf "law" "law" (defArgs s_law) (defBody s_law) (defScope s_law) .none kV_law dc_law pm_law an_law cd_law ct_law), sl_law⟩)
    (c_law : PySem.W.codeIn K cd_law "law" = true)
    (k_law : PySem.W.keepIn K (.ref f_law) = true)
    (hg2 : PySem.W.findIn K (.ref C2) "__getattribute__" = some (some (.builtin "BaseException.__getattribute__")))
    (hk2 : PySem.W.findIn K (.ref C2) "__getattr__" = some none)
    (hs2 : PySem.W.subIn K (.ref C2) (.type "BaseException") = some true)
    (hd2 : PySem.W.hasDictIn K C2 = true)
    (ha2 : PySem.W.findIn K (.ref C2) "__class__" = some (some (.builtin "object.__class__")))
    (hn2 : PySem.W.specialIn K (.builtin "object.__class__") "__get__" = some (some (.builtin "getset_descriptor.__get__")))
    (ht2 : PySem.W.takesIn K (.builtin "object.__class__") = some true)
    (hm2 : PySem.W.mroIn K C2 (.type "object") = some true)
    (ia2 : PySem.W.subIn K (.ref C2) (.type "int") = some false)
    (ib2 : PySem.W.subIn K (.ref C2) (.type "bool") = some false)
    (ic2 : PySem.W.subIn K (.ref C2) (.type "tuple") = some false)
    (id2 : PySem.W.subIn K (.ref C2) (.type "list") = some false)
    (ie2 : PySem.W.subIn K (.ref C2) (.type "str") = some false)
    (sv2 : PySem.W.subIn K (.ref C2) (.type "ValueError") = some true)
    (sb2_10 : PySem.W.subIn K (.ref C2) (.ref C10) = some true)
    (hg3 : PySem.W.findIn K (.ref C3) "__getattribute__" = some (some (.builtin "BaseException.__getattribute__")))
    (hk3 : PySem.W.findIn K (.ref C3) "__getattr__" = some none)
    (hs3 : PySem.W.subIn K (.ref C3) (.type "BaseException") = some true)
    (hd3 : PySem.W.hasDictIn K C3 = true)
    (ha3 : PySem.W.findIn K (.ref C3) "__class__" = some (some (.builtin "object.__class__")))
    (hn3 : PySem.W.specialIn K (.builtin "object.__class__") "__get__" = some (some (.builtin "getset_descriptor.__get__")))
    (ht3 : PySem.W.takesIn K (.builtin "object.__class__") = some true)
    (hm3 : PySem.W.mroIn K C3 (.type "object") = some true)
    (ia3 : PySem.W.subIn K (.ref C3) (.type "int") = some false)
    (ib3 : PySem.W.subIn K (.ref C3) (.type "bool") = some false)
    (ic3 : PySem.W.subIn K (.ref C3) (.type "tuple") = some false)
    (id3 : PySem.W.subIn K (.ref C3) (.type "list") = some false)
    (ie3 : PySem.W.subIn K (.ref C3) (.type "str") = some false)
    (sv3 : PySem.W.subIn K (.ref C3) (.type "ValueError") = some true)
    (sb3_10 : PySem.W.subIn K (.ref C3) (.ref C10) = some true)
    (hg4 : PySem.W.findIn K (.ref C4) "__getattribute__" = some (some (.builtin "BaseException.__getattribute__")))
    (hk4 : PySem.W.findIn K (.ref C4) "__getattr__" = some none)
    (hs4 : PySem.W.subIn K (.ref C4) (.type "BaseException") = some true)
    (hd4 : PySem.W.hasDictIn K C4 = true)
    (ha4 : PySem.W.findIn K (.ref C4) "__class__" = some (some (.builtin "object.__class__")))
    (hn4 : PySem.W.specialIn K (.builtin "object.__class__") "__get__" = some (some (.builtin "getset_descriptor.__get__")))
    (ht4 : PySem.W.takesIn K (.builtin "object.__class__") = some true)
    (hm4 : PySem.W.mroIn K C4 (.type "object") = some true)
    (ia4 : PySem.W.subIn K (.ref C4) (.type "int") = some false)
    (ib4 : PySem.W.subIn K (.ref C4) (.type "bool") = some false)
    (ic4 : PySem.W.subIn K (.ref C4) (.type "tuple") = some false)
    (id4 : PySem.W.subIn K (.ref C4) (.type "list") = some false)
    (ie4 : PySem.W.subIn K (.ref C4) (.type "str") = some false)
    (sv4 : PySem.W.subIn K (.ref C4) (.type "ValueError") = some true)
    (sb4_10 : PySem.W.subIn K (.ref C4) (.ref C10) = some true)
    (hg5 : PySem.W.findIn K (.ref C5) "__getattribute__" = some (some (.builtin "BaseException.__getattribute__")))
    (hk5 : PySem.W.findIn K (.ref C5) "__getattr__" = some none)
    (hs5 : PySem.W.subIn K (.ref C5) (.type "BaseException") = some true)
    (hd5 : PySem.W.hasDictIn K C5 = true)
    (ha5 : PySem.W.findIn K (.ref C5) "__class__" = some (some (.builtin "object.__class__")))
    (hn5 : PySem.W.specialIn K (.builtin "object.__class__") "__get__" = some (some (.builtin "getset_descriptor.__get__")))
    (ht5 : PySem.W.takesIn K (.builtin "object.__class__") = some true)
    (hm5 : PySem.W.mroIn K C5 (.type "object") = some true)
    (ia5 : PySem.W.subIn K (.ref C5) (.type "int") = some false)
    (ib5 : PySem.W.subIn K (.ref C5) (.type "bool") = some false)
    (ic5 : PySem.W.subIn K (.ref C5) (.type "tuple") = some false)
    (id5 : PySem.W.subIn K (.ref C5) (.type "list") = some false)
    (ie5 : PySem.W.subIn K (.ref C5) (.type "str") = some false)
    (sv5 : PySem.W.subIn K (.ref C5) (.type "ValueError") = some true)
    (sb5_10 : PySem.W.subIn K (.ref C5) (.ref C10) = some true)
    (hg9 : PySem.W.findIn K (.ref C9) "__getattribute__" = some (some (.builtin "BaseException.__getattribute__")))
    (hk9 : PySem.W.findIn K (.ref C9) "__getattr__" = some none)
    (hs9 : PySem.W.subIn K (.ref C9) (.type "BaseException") = some true)
    (hd9 : PySem.W.hasDictIn K C9 = true)
    (ha9 : PySem.W.findIn K (.ref C9) "__class__" = some (some (.builtin "object.__class__")))
    (hn9 : PySem.W.specialIn K (.builtin "object.__class__") "__get__" = some (some (.builtin "getset_descriptor.__get__")))
    (ht9 : PySem.W.takesIn K (.builtin "object.__class__") = some true)
    (hm9 : PySem.W.mroIn K C9 (.type "object") = some true)
    (ia9 : PySem.W.subIn K (.ref C9) (.type "int") = some false)
    (ib9 : PySem.W.subIn K (.ref C9) (.type "bool") = some false)
    (ic9 : PySem.W.subIn K (.ref C9) (.type "tuple") = some false)
    (id9 : PySem.W.subIn K (.ref C9) (.type "list") = some false)
    (ie9 : PySem.W.subIn K (.ref C9) (.type "str") = some false)
    (sv9 : PySem.W.subIn K (.ref C9) (.type "ValueError") = some true)
    (sb9_10 : PySem.W.subIn K (.ref C9) (.ref C10) = some true)
    (ci10 : PySem.W.isClsIn K C10 = true)
    (ct10 : PySem.W.typeIn K (.ref C10) = some (.type "type"))
    (be10 : PySem.W.subIn K (.ref C10) (.type "BaseException") = some true)
    (ci9 : PySem.W.isClsIn K C9 = true)
    (ct9 : PySem.W.typeIn K (.ref C9) = some (.type "type"))
    (sb9_9 : PySem.W.subIn K (.ref C9) (.ref C9) = some true)
    (no_wish : PySem.W.findIn K (.ref C4) "wish" = some none)
    (no_reached : PySem.W.findIn K (.ref C4) "reached" = some none)
    (no_part : PySem.W.findIn K (.ref C9) "part" = some none)
    (r1 : PySem.W.specialIn K (.ref C10) "__getattribute__" = some (some (.builtin "type.__getattribute__")))
    (r2 : PySem.W.readsIn K C10 (.type "type") = true)
    (r3 : PySem.W.findCls K (.ref C10) (.type "type") "__init__" = some (.val (.builtin "ValueError.__init__")))
    (oc4 : OexCls K C4)
    (os4 : PySem.W.findIn K (.ref C4) "__setattr__" = some (some (.builtin "object.__setattr__")))
    (ct4 : PySem.W.typeIn K (.ref C4) = some (.type "type"))
    (xk4 : PySem.W.keepIn K (.ref C4) = true)
    (oi4 : PySem.W.findIn K (.ref C4) "__init__" = some (some (.ref f_NoWay_init)))
    (ot4 : PySem.W.typeIn K (.ref f_NoWay_init) = some (.type "function"))
    (l_NoWay_init : K.lookup f_NoWay_init = some ⟨oc_NoWay_init, od_NoWay_init, .func (PySem.W.fnOf "__init__" "NoWay.__init__" (defArgs s_NoWay_init) (defBody s_NoWay_init) (defScope s_NoWay_init) .none kV_NoWay_init dc_NoWay_init pm_NoWay_init an_NoWay_init cd_NoWay_init ct_NoWay_init), sl_NoWay_init⟩)
    (c_NoWay_init : PySem.W.codeIn K cd_NoWay_init "NoWay.__init__" = true)
    (k_NoWay_init : PySem.W.keepIn K (.ref f_NoWay_init) = true)
    (oc9 : OexCls K C9)
    (os9 : PySem.W.findIn K (.ref C9) "__setattr__" = some (some (.builtin "object.__setattr__")))
    (xk9 : PySem.W.keepIn K (.ref C9) = true)
    (oi9 : PySem.W.findIn K (.ref C9) "__init__" = some (some (.ref f_NoText_init)))
    (ot9 : PySem.W.typeIn K (.ref f_NoText_init) = some (.type "function"))
    (l_NoText_init : K.lookup f_NoText_init = some ⟨oc_NoText_init, od_NoText_init, .func (PySem.W.fnOf "__init__" "NoText.__init__" (defArgs s_NoText_init) (defBody s_NoText_init) (defScope s_NoText_init) .none kV_NoText_init dc_NoText_init pm_NoText_init an_NoText_init cd_NoText_init ct_NoText_init), sl_NoText_init⟩)
    (c_NoText_init : PySem.W.codeIn K cd_NoText_init "NoText.__init__" = true)
    (k_NoText_init : PySem.W.keepIn K (.ref f_NoText_init) = true) :
    ∃ fd : FuncData, (∀ (s : Shared) (v : Value), BindsTo s fd ⟨[v], []⟩ [("_law_script", v)]) ∧ ∀ base : Heap, K.In base → base.Ns mainGlobals mg → FnOk l.prog w K mg base (L2.CX l.prog w) 11 fa fd ["_law_script"] (spD K 1 r_law) := by
  have e := hfa.symm.trans (PySem.W.mg_of X G a_law)
  cases e
  let A : Nat → Addr := fun n => match n with | 2 => C2 | 3 => C3 | 4 => C4 | 5 => C5 | 9 => C9 | 10 => C10 | _ => C2
  have T : Txt K mg A := { b_abs := PySem.W.mg_none_of X G z_abs, b_bool := PySem.W.mg_none_of X G z_bool, b_enumerate := PySem.W.mg_none_of X G z_enumerate, b_int := PySem.W.mg_none_of X G z_int, b_isinstance := PySem.W.mg_none_of X G z_isinstance, b_len := PySem.W.mg_none_of X G z_len, b_list := PySem.W.mg_none_of X G z_list, b_range := PySem.W.mg_none_of X G z_range, b_sorted := PySem.W.mg_none_of X G z_sorted, b_str := PySem.W.mg_none_of X G z_str, b_sum := PySem.W.mg_none_of X G z_sum, b_tuple := PySem.W.mg_none_of X G z_tuple, x_NoNet := ⟨x2, PySem.W.mg_of X G g2, xk2, xb2, xt2⟩, x_NoWish := ⟨x3, PySem.W.mg_of X G g3, xk3, xb3, xt3⟩, x_TooMany := ⟨x5, PySem.W.mg_of X G g5, xk5, xb5, xt5⟩, c_FIGURES := ⟨.str ("0123456789" : PySem.Str), .str ("0123456789" : PySem.Str) tk_FIGURES, PySem.W.mg_of X G k_FIGURES, ⟨tk_FIGURES, rfl⟩, fun _ => .str ("0123456789" : PySem.Str)⟩, c_LONGEST := ⟨.int 18, .int 18 tk_LONGEST, PySem.W.mg_of X G k_LONGEST, ⟨tk_LONGEST, rfl⟩, fun _ => .int 18⟩, c_MOST_PLACES := ⟨.int 6, .int 6 tk_MOST_PLACES, PySem.W.mg_of X G k_MOST_PLACES, ⟨tk_MOST_PLACES, rfl⟩, fun _ => .int 6⟩, c_MOST_ROADS := ⟨.int 12, .int 12 tk_MOST_ROADS, PySem.W.mg_of X G k_MOST_ROADS, ⟨tk_MOST_ROADS, rfl⟩, fun _ => .int 12⟩, c_MOST_WAYS := ⟨.int 10, .int 10 tk_MOST_WAYS, PySem.W.mg_of X G k_MOST_WAYS, ⟨tk_MOST_WAYS, rfl⟩, fun _ => .int 10⟩, c_MOST_WISHES := ⟨.int 3, .int 3 tk_MOST_WISHES, PySem.W.mg_of X G k_MOST_WISHES, ⟨tk_MOST_WISHES, rfl⟩, fun _ => .int 3⟩, xm := (fun c h => (by rcases h with rfl | rfl | rfl | rfl | rfl; exact exm_ref be10 ci10 ct10 sb2_10; exact exm_ref be10 ci10 ct10 sb3_10; exact exm_ref be10 ci10 ct10 sb4_10; exact exm_ref be10 ci10 ct10 sb5_10; exact exm_ref be10 ci10 ct10 sb9_10)), ek := (fun c h => (by rcases h with rfl | rfl | rfl | rfl | rfl; exact cd_of ⟨hg2, hk2, hs2, hd2, ha2, hn2, ht2, hm2⟩ ia2 ib2 ic2 id2 ie2; exact cd_of ⟨hg3, hk3, hs3, hd3, ha3, hn3, ht3, hm3⟩ ia3 ib3 ic3 id3 ie3; exact cd_of ⟨hg4, hk4, hs4, hd4, ha4, hn4, ht4, hm4⟩ ia4 ib4 ic4 id4 ie4; exact cd_of ⟨hg5, hk5, hs5, hd5, ha5, hn5, ht5, hm5⟩ ia5 ib5 ic5 id5 ie5; exact cd_of ⟨hg9, hk9, hs9, hd9, ha9, hn9, ht9, hm9⟩ ia9 ib9 ic9 id9 ie9)), kv := (fun c h => (by rcases h with rfl | rfl | rfl | rfl | rfl; exact kit_tyT (by rfl) sv2; exact kit_tyT (by rfl) sv3; exact kit_tyT (by rfl) sv4; exact kit_tyT (by rfl) sv5; exact kit_tyT (by rfl) sv9)), g_RoadError := PySem.W.mg_of X G g10, xm_part := exm_ref hs9 ci9 ct9 sb9_9, g_NoText := PySem.W.mg_of X G g9, no_wish := no_wish, no_reached := no_reached, no_part := no_part }
  have F_is_whole := fun_mk (st := s_is_whole) l_is_whole c_is_whole k_is_whole
  have D_is_whole := def_mk X G a_is_whole F_is_whole (F_is_whole.binds (ps := ["thing"]) fun _ _ _ _ _ _ us hl => match us, hl with | [_], _ => rfl)
  have F_common_part := fun_mk (st := s_common_part) l_common_part c_common_part k_common_part
  have D_common_part := def_mk X G a_common_part F_common_part (F_common_part.binds (ps := ["one", "other"]) fun _ _ _ _ _ _ us hl => match us, hl with | [_, _], _ => rfl)
  have F_is_fraction := fun_mk (st := s_is_fraction) l_is_fraction c_is_fraction k_is_fraction
  have D_is_fraction := def_mk X G a_is_fraction F_is_fraction (F_is_fraction.binds (ps := ["thing"]) fun _ _ _ _ _ _ us hl => match us, hl with | [_], _ => rfl)
  have F_is_place := fun_mk (st := s_is_place) l_is_place c_is_place k_is_place
  have D_is_place := def_mk X G a_is_place F_is_place (F_is_place.binds (ps := ["thing", "many"]) fun _ _ _ _ _ _ us hl => match us, hl with | [_, _], _ => rfl)
  have F_two_places := fun_mk (st := s_two_places) l_two_places c_two_places k_two_places
  have D_two_places := def_mk X G a_two_places F_two_places (F_two_places.binds (ps := ["start", "end", "many"]) fun _ _ _ _ _ _ us hl => match us, hl with | [_, _, _], _ => rfl)
  have F_from_nought := fun_mk (st := s_from_nought) l_from_nought c_from_nought k_from_nought
  have D_from_nought := def_mk X G a_from_nought F_from_nought (F_from_nought.binds (ps := ["thing"]) fun _ _ _ _ _ _ us hl => match us, hl with | [_], _ => rfl)
  have F_road_fits := fun_mk (st := s_road_fits) l_road_fits c_road_fits k_road_fits
  have D_road_fits := def_mk X G a_road_fits F_road_fits (F_road_fits.binds (ps := ["road", "many"]) fun _ _ _ _ _ _ us hl => match us, hl with | [_, _], _ => rfl)
  have F_made_net := fun_mk (st := s_made_net) l_made_net c_made_net k_made_net
  have D_made_net := def_mk X G a_made_net F_made_net (F_made_net.binds (ps := ["many", "roads"]) fun _ _ _ _ _ _ us hl => match us, hl with | [_, _], _ => rfl)
  have F_usable_roads := fun_mk (st := s_usable_roads) l_usable_roads c_usable_roads k_usable_roads
  have D_usable_roads := def_mk X G a_usable_roads F_usable_roads (F_usable_roads.binds (ps := ["net", "lane"]) fun _ _ _ _ _ _ us hl => match us, hl with | [_, _], _ => rfl)
  have F_reached_from := fun_mk (st := s_reached_from) l_reached_from c_reached_from k_reached_from
  have D_reached_from := def_mk X G a_reached_from F_reached_from (F_reached_from.binds (ps := ["net", "start", "lane"]) fun _ _ _ _ _ _ us hl => match us, hl with | [_, _, _], _ => rfl)
  have F_ways_between := fun_mk (st := s_ways_between) l_ways_between c_ways_between k_ways_between
  have D_ways_between := def_mk X G a_ways_between F_ways_between (F_ways_between.binds (ps := ["net", "start", "end", "lane"]) fun _ _ _ _ _ _ us hl => match us, hl with | [_, _, _, _], _ => rfl)
  have F_ask_way := fun_mk (st := s_ask_way) l_ask_way c_ask_way k_ask_way
  have D_ask_way := def_mk X G a_ask_way F_ask_way (F_ask_way.binds (ps := ["net", "start", "end", "lane", "number"]) fun _ _ _ _ _ _ us hl => match us, hl with | [_, _, _, _, _], _ => rfl)
  have F_wish_fits := fun_mk (st := s_wish_fits) l_wish_fits c_wish_fits k_wish_fits
  have D_wish_fits := def_mk X G a_wish_fits F_wish_fits (F_wish_fits.binds (ps := ["wish", "many"]) fun _ _ _ _ _ _ us hl => match us, hl with | [_, _], _ => rfl)
  have F_ways_of := fun_mk (st := s_ways_of) l_ways_of c_ways_of k_ways_of
  have D_ways_of := def_mk X G a_ways_of F_ways_of (F_ways_of.binds (ps := ["net", "wish"]) fun _ _ _ _ _ _ us hl => match us, hl with | [_, _], _ => rfl)
  have F_made_wishes := fun_mk (st := s_made_wishes) l_made_wishes c_made_wishes k_made_wishes
  have D_made_wishes := def_mk X G a_made_wishes F_made_wishes (F_made_wishes.binds (ps := ["net", "wishes"]) fun _ _ _ _ _ _ us hl => match us, hl with | [_, _], _ => rfl)
  have F_whole_read := fun_mk (st := s_whole_read) l_whole_read c_whole_read k_whole_read
  have D_whole_read := def_mk X G a_whole_read F_whole_read (F_whole_read.binds (ps := ["word"]) fun _ _ _ _ _ _ us hl => match us, hl with | [_], _ => rfl)
  have F_fraction_read := fun_mk (st := s_fraction_read) l_fraction_read c_fraction_read k_fraction_read
  have D_fraction_read := def_mk X G a_fraction_read F_fraction_read (F_fraction_read.binds (ps := ["word"]) fun _ _ _ _ _ _ us hl => match us, hl with | [_], _ => rfl)
  have F_figure_read := fun_mk (st := s_figure_read) l_figure_read c_figure_read k_figure_read
  have D_figure_read := def_mk X G a_figure_read F_figure_read (F_figure_read.binds (ps := ["word"]) fun _ _ _ _ _ _ us hl => match us, hl with | [_], _ => rfl)
  have F_row_read := fun_mk (st := s_row_read) l_row_read c_row_read k_row_read
  have D_row_read := def_mk X G a_row_read F_row_read (F_row_read.binds (ps := ["part"]) fun _ _ _ _ _ _ us hl => match us, hl with | [_], _ => rfl)
  have F_places_read := fun_mk (st := s_places_read) l_places_read c_places_read k_places_read
  have D_places_read := def_mk X G a_places_read F_places_read (F_places_read.binds (ps := ["part"]) fun _ _ _ _ _ _ us hl => match us, hl with | [_], _ => rfl)
  have F_read_net := fun_mk (st := s_read_net) l_read_net c_read_net k_read_net
  have D_read_net := def_mk X G a_read_net F_read_net (F_read_net.binds (ps := ["text"]) fun _ _ _ _ _ _ us hl => match us, hl with | [_], _ => rfl)
  have F_fraction_text := fun_mk (st := s_fraction_text) l_fraction_text c_fraction_text k_fraction_text
  have D_fraction_text := def_mk X G a_fraction_text F_fraction_text (F_fraction_text.binds (ps := ["one"]) fun _ _ _ _ _ _ us hl => match us, hl with | [_], _ => rfl)
  have F_net_text := fun_mk (st := s_net_text) l_net_text c_net_text k_net_text
  have D_net_text := def_mk X G a_net_text F_net_text (F_net_text.binds (ps := ["net", "wishes"]) fun _ _ _ _ _ _ us hl => match us, hl with | [_, _], _ => rfl)
  have F_l_whole := fun_mk (st := s_l_whole) l_l_whole c_l_whole k_l_whole
  have D_l_whole := def_mk X G a_l_whole F_l_whole (F_l_whole.binds (ps := ["_law_found"]) fun _ _ _ _ _ _ us hl => match us, hl with | [_], _ => rfl)
  have F_l_cell := fun_mk (st := s_l_cell) l_l_cell c_l_cell k_l_cell
  have D_l_cell := def_mk X G a_l_cell F_l_cell (F_l_cell.binds (ps := ["_law_script", "_law_k"]) fun _ _ _ _ _ _ us hl => match us, hl with | [_, _], _ => rfl)
  have F_l_mixed := fun_mk (st := s_l_mixed) l_l_mixed c_l_mixed k_l_mixed
  have D_l_mixed := def_mk X G a_l_mixed F_l_mixed (F_l_mixed.binds (ps := ["_law_script", "_law_k"]) fun _ _ _ _ _ _ us hl => match us, hl with | [_, _], _ => rfl)
  have F_l_divisor := fun_mk (st := s_l_divisor) l_l_divisor c_l_divisor k_l_divisor
  have D_l_divisor := def_mk X G a_l_divisor F_l_divisor (F_l_divisor.binds (ps := ["_law_one", "_law_other"]) fun _ _ _ _ _ _ us hl => match us, hl with | [_, _], _ => rfl)
  have F_l_fraction := fun_mk (st := s_l_fraction) l_l_fraction c_l_fraction k_l_fraction
  have D_l_fraction := def_mk X G a_l_fraction F_l_fraction (F_l_fraction.binds (ps := ["_law_script", "_law_k"]) fun _ _ _ _ _ _ us hl => match us, hl with | [_, _], _ => rfl)
  have F_l_listed := fun_mk (st := s_l_listed) l_l_listed c_l_listed k_l_listed
  have D_l_listed := def_mk X G a_l_listed F_l_listed (F_l_listed.binds (ps := ["_law_roads_here", "_law_start", "_law_end", "_law_lane"]) fun _ _ _ _ _ _ us hl => match us, hl with | [_, _, _, _], _ => rfl)
  have F_l_many := fun_mk (st := s_l_many) l_l_many c_l_many k_l_many
  have D_l_many := def_mk X G a_l_many F_l_many (F_l_many.binds (ps := ["_law_roads_here", "_law_wishes_here"]) fun _ _ _ _ _ _ us hl => match us, hl with | [_, _], _ => rfl)
  have F_l_wishes := fun_mk (st := s_l_wishes) l_l_wishes c_l_wishes k_l_wishes
  have D_l_wishes := def_mk X G a_l_wishes F_l_wishes (F_l_wishes.binds (ps := ["_law_script", "_law_many_here"]) fun _ _ _ _ _ _ us hl => match us, hl with | [_, _], _ => rfl)
  have F_l_road := fun_mk (st := s_l_road) l_l_road c_l_road k_l_road
  have D_l_road := def_mk X G a_l_road F_l_road (F_l_road.binds (ps := ["_law_script", "_law_k", "_law_start", "_law_end", "_law_lane"]) fun _ _ _ _ _ _ us hl => match us, hl with | [_, _, _, _, _], _ => rfl)
  have F_l_begun := fun_mk (st := s_l_begun) l_l_begun c_l_begun k_l_begun
  have D_l_begun := def_mk X G a_l_begun F_l_begun (F_l_begun.binds (ps := ["_law_script", "_law_many_here", "_law_wishes_here", "_law_straight"]) fun _ _ _ _ _ _ us hl => match us, hl with | [_, _, _, _], _ => rfl)
  have F_l_roads := fun_mk (st := s_l_roads) l_l_roads c_l_roads k_l_roads
  have D_l_roads := def_mk X G a_l_roads F_l_roads (F_l_roads.binds (ps := ["_law_script", "_law_many_here", "_law_wishes_here"]) fun _ _ _ _ _ _ us hl => match us, hl with | [_, _, _], _ => rfl)
  have F_l_number := fun_mk (st := s_l_number) l_l_number c_l_number k_l_number
  have D_l_number := def_mk X G a_l_number F_l_number (F_l_number.binds (ps := ["_law_one"]) fun _ _ _ _ _ _ us hl => match us, hl with | [_], _ => rfl)
  have F_l_words := fun_mk (st := s_l_words) l_l_words c_l_words k_l_words
  have D_l_words := def_mk X G a_l_words F_l_words (F_l_words.binds (ps := ["_law_many_here", "_law_roads_here", "_law_wishes_here"]) fun _ _ _ _ _ _ us hl => match us, hl with | [_, _, _], _ => rfl)
  have F_l_alike := fun_mk (st := s_l_alike) l_l_alike c_l_alike k_l_alike
  have D_l_alike := def_mk X G a_l_alike F_l_alike (F_l_alike.binds (ps := ["_law_found", "_law_due"]) fun _ _ _ _ _ _ us hl => match us, hl with | [_, _], _ => rfl)
  have F_l_shown := fun_mk (st := s_l_shown) l_l_shown c_l_shown k_l_shown
  have D_l_shown := def_mk X G a_l_shown F_l_shown (F_l_shown.binds (ps := ["_law_net", "_law_wishes_here", "_law_text"]) fun _ _ _ _ _ _ us hl => match us, hl with | [_, _, _], _ => rfl)
  have F_l_longer := fun_mk (st := s_l_longer) l_l_longer c_l_longer k_l_longer
  have D_l_longer := def_mk X G a_l_longer F_l_longer (F_l_longer.binds (ps := ["_law_script", "_law_many_here", "_law_roads_here", "_law_wishes_here"]) fun _ _ _ _ _ _ us hl => match us, hl with | [_, _, _, _], _ => rfl)
  have F_NoWay_init := fun_mk (st := s_NoWay_init) l_NoWay_init c_NoWay_init k_NoWay_init
  have F_NoText_init := fun_mk (st := s_NoText_init) l_NoText_init c_NoText_init k_NoText_init
  refine ⟨PySem.W.fnOf "law" "law" (defArgs s_law) (defBody s_law) (defScope s_law) .none kV_law dc_law pm_law an_law cd_law ct_law, fun s v => .of_eq rfl, fun base _ _ => ?_⟩
  have O_NoWay__init_ : IniC l.prog w K mg base "NoWay" C4 (spNW K C4) := ini_w oc4 os4 hs4 ct4 xk4 (PySem.W.mg_of X G g4) oi4 ot4 (ok_NoWay_init F_NoWay_init (PySem.W.mg_of X G g10) ⟨r1, r2, r3⟩ no_wish no_reached) (F_NoWay_init.binds (ps := ["self", "wish", "reached"]) fun _ _ _ _ _ _ us hl => match us, hl with | [_, _, _], _ => rfl)
  have O_NoText__init_ : IniC l.prog w K mg base "NoText" C9 (spNT K C9) := ini_w oc9 os9 hs9 ct9 xk9 (PySem.W.mg_of X G g9) oi9 ot9 (ok_NoText_init F_NoText_init (PySem.W.mg_of X G g10) ⟨r1, r2, r3⟩ no_part) (F_NoText_init.binds (ps := ["self", "part"]) fun _ _ _ _ _ _ us hl => match us, hl with | [_, _], _ => rfl)
  have O_is_whole := ok_is_whole (P := l.prog) (w := w) (base := base) D_is_whole T 
  have O_common_part := ok_common_part (P := l.prog) (w := w) (base := base) D_common_part T 
  have O_is_fraction := ok_is_fraction (P := l.prog) (w := w) (base := base) D_is_fraction T O_is_whole O_common_part
  have O_is_place := ok_is_place (P := l.prog) (w := w) (base := base) D_is_place T O_is_whole
  have O_two_places := ok_two_places (P := l.prog) (w := w) (base := base) D_two_places T O_is_place
  have O_from_nought := ok_from_nought (P := l.prog) (w := w) (base := base) D_from_nought T O_is_fraction
  have O_road_fits := ok_road_fits (P := l.prog) (w := w) (base := base) D_road_fits T O_two_places O_from_nought
  have O_made_net := ok_made_net (P := l.prog) (w := w) (base := base) D_made_net T O_is_whole O_road_fits
  have O_usable_roads := ok_usable_roads (P := l.prog) (w := w) (base := base) D_usable_roads T 
  have O_reached_from := ok_reached_from (P := l.prog) (w := w) (base := base) D_reached_from T O_usable_roads
  have O_ways_between := ok_ways_between (P := l.prog) (w := w) (base := base) D_ways_between T O_usable_roads
  have O_ask_way := ok_ask_way (P := l.prog) (w := w) (base := base) D_ask_way T O_NoWay__init_ O_reached_from
  have O_wish_fits := ok_wish_fits (P := l.prog) (w := w) (base := base) D_wish_fits T O_is_fraction O_two_places
  have O_ways_of := ok_ways_of (P := l.prog) (w := w) (base := base) D_ways_of T O_ways_between
  have O_made_wishes := ok_made_wishes (P := l.prog) (w := w) (base := base) D_made_wishes T O_ask_way O_wish_fits O_ways_of
  have O_whole_read := ok_whole_read (P := l.prog) (w := w) (base := base) D_whole_read T 
  have O_fraction_read := ok_fraction_read (P := l.prog) (w := w) (base := base) D_fraction_read T O_common_part O_whole_read
  have O_figure_read := ok_figure_read (P := l.prog) (w := w) (base := base) D_figure_read T 
  have O_row_read := ok_row_read (P := l.prog) (w := w) (base := base) D_row_read T O_fraction_read O_figure_read
  have O_places_read := ok_places_read (P := l.prog) (w := w) (base := base) D_places_read T O_NoText__init_ O_figure_read
  have O_read_net := ok_read_net (P := l.prog) (w := w) (base := base) D_read_net T O_NoText__init_ O_made_net O_made_wishes O_row_read O_places_read
  have O_fraction_text := ok_fraction_text (P := l.prog) (w := w) (base := base) D_fraction_text T 
  have O_net_text := ok_net_text (P := l.prog) (w := w) (base := base) D_net_text T O_fraction_text
  have O_l_whole := ok_l_whole (P := l.prog) (w := w) (base := base) D_l_whole T 
  have O_l_cell := ok_l_cell (P := l.prog) (w := w) (base := base) D_l_cell T 
  have O_l_mixed := ok_l_mixed (P := l.prog) (w := w) (base := base) D_l_mixed T O_l_cell
  have O_l_divisor := ok_l_divisor (P := l.prog) (w := w) (base := base) D_l_divisor T 
  have O_l_fraction := ok_l_fraction (P := l.prog) (w := w) (base := base) D_l_fraction T O_l_mixed O_l_divisor
  have O_l_listed := ok_l_listed (P := l.prog) (w := w) (base := base) D_l_listed T 
  have O_l_many := ok_l_many (P := l.prog) (w := w) (base := base) D_l_many T O_l_listed
  have O_l_wishes := ok_l_wishes (P := l.prog) (w := w) (base := base) D_l_wishes T O_l_cell O_l_mixed O_l_fraction
  have O_l_road := ok_l_road (P := l.prog) (w := w) (base := base) D_l_road T O_l_fraction
  have O_l_begun := ok_l_begun (P := l.prog) (w := w) (base := base) D_l_begun T O_l_mixed O_l_many O_l_road
  have O_l_roads := ok_l_roads (P := l.prog) (w := w) (base := base) D_l_roads T O_l_mixed O_l_many O_l_road O_l_begun
  have O_l_number := ok_l_number (P := l.prog) (w := w) (base := base) D_l_number T 
  have O_l_words := ok_l_words (P := l.prog) (w := w) (base := base) D_l_words T O_l_number
  have O_l_alike := ok_l_alike (P := l.prog) (w := w) (base := base) D_l_alike T O_l_whole
  have O_l_shown := ok_l_shown (P := l.prog) (w := w) (base := base) D_l_shown T O_net_text
  have O_l_longer := ok_l_longer (P := l.prog) (w := w) (base := base) D_l_longer T O_read_net O_l_whole O_l_mixed O_l_words O_l_shown
  exact ok_law (fun_mk (st := s_law) l_law c_law k_law) T O_read_net O_l_cell O_l_mixed O_l_wishes O_l_roads O_l_words O_l_alike O_l_shown O_l_longer
end K61

end

section
theorem D.oex_of {K : PySem.W.Frag} {C : PySem.Addr} {nm q N bs bm sn sub ab col dd k0 k1 k2 k3 k5} (h1 : K.lookup C = some (PySem.excClassObj nm q C N bs bm true sn sub ab col dd k0 k1 k2 k3 k5 "ValueError.__new__")) (h2 : PySem.HandSPX.refsVE bm = true) : D.OexCls K C := ⟨_, _, _, _, _, _, _, _, _, _, _, _, _, _, _, h1, h2⟩
open PySem PySem.W PyProof.Rows in
set_option maxRecDepth 100000 in
set_option maxHeartbeats 0 in
theorem PySem.Challenge.cw_crowdroads_k61_text_read_holds : PySem.Challenge.rw_crowdroads_k61_text_read.Holds := by
  w_on; o_law; k_head; (case hw => w_witness2)
  k_fill
  refine D.walk (l := PySem.Challenge.rw_crowdroads_k61_text_read) (x := "_law_script") (k := 11) (Rf := K61.r_law) rfl rfl ⟨rfl, by decide, by decide⟩ (fun w h Y => PySem.W.kIn_of Y) ?F ?S
  case F =>
    intro w mg fa h KX G hmg
    refine' K61.all_mk KX G hmg ?g2 ?g3 ?g4 ?g5 ?g9 ?g10 ?z_abs ?z_bool ?z_enumerate ?z_int ?z_isinstance ?z_len ?z_list ?z_range ?z_sorted ?z_str ?z_sum ?z_tuple ?x2 ?xk2 ?xb2 ?xt2 ?x3 ?xk3 ?xb3 ?xt3 ?x5 ?xk5 ?xb5 ?xt5 ?k_FIGURES ?k_LONGEST ?k_MOST_PLACES ?k_MOST_ROADS ?k_MOST_WAYS ?k_MOST_WISHES ?a_is_whole ?l_is_whole ?c_is_whole ?k_is_whole ?a_common_part ?l_common_part ?c_common_part ?k_common_part ?a_is_fraction ?l_is_fraction ?c_is_fraction ?k_is_fraction ?a_is_place ?l_is_place ?c_is_place ?k_is_place ?a_two_places ?l_two_places ?c_two_places ?k_two_places ?a_from_nought ?l_from_nought ?c_from_nought ?k_from_nought ?a_road_fits ?l_road_fits ?c_road_fits ?k_road_fits ?a_made_net ?l_made_net ?c_made_net ?k_made_net ?a_usable_roads ?l_usable_roads ?c_usable_roads ?k_usable_roads ?a_reached_from ?l_reached_from ?c_reached_from ?k_reached_from ?a_ways_between ?l_ways_between ?c_ways_between ?k_ways_between ?a_ask_way ?l_ask_way ?c_ask_way ?k_ask_way ?a_wish_fits ?l_wish_fits ?c_wish_fits ?k_wish_fits ?a_ways_of ?l_ways_of ?c_ways_of ?k_ways_of ?a_made_wishes ?l_made_wishes ?c_made_wishes ?k_made_wishes ?a_whole_read ?l_whole_read ?c_whole_read ?k_whole_read ?a_fraction_read ?l_fraction_read ?c_fraction_read ?k_fraction_read ?a_figure_read ?l_figure_read ?c_figure_read ?k_figure_read ?a_row_read ?l_row_read ?c_row_read ?k_row_read ?a_places_read ?l_places_read ?c_places_read ?k_places_read ?a_read_net ?l_read_net ?c_read_net ?k_read_net ?a_fraction_text ?l_fraction_text ?c_fraction_text ?k_fraction_text ?a_net_text ?l_net_text ?c_net_text ?k_net_text ?a_l_whole ?l_l_whole ?c_l_whole ?k_l_whole ?a_l_cell ?l_l_cell ?c_l_cell ?k_l_cell ?a_l_mixed ?l_l_mixed ?c_l_mixed ?k_l_mixed ?a_l_divisor ?l_l_divisor ?c_l_divisor ?k_l_divisor ?a_l_fraction ?l_l_fraction ?c_l_fraction ?k_l_fraction ?a_l_listed ?l_l_listed ?c_l_listed ?k_l_listed ?a_l_many ?l_l_many ?c_l_many ?k_l_many ?a_l_wishes ?l_l_wishes ?c_l_wishes ?k_l_wishes ?a_l_road ?l_l_road ?c_l_road ?k_l_road ?a_l_begun ?l_l_begun ?c_l_begun ?k_l_begun ?a_l_roads ?l_l_roads ?c_l_roads ?k_l_roads ?a_l_number ?l_l_number ?c_l_number ?k_l_number ?a_l_words ?l_l_words ?c_l_words ?k_l_words ?a_l_alike ?l_l_alike ?c_l_alike ?k_l_alike ?a_l_shown ?l_l_shown ?c_l_shown ?k_l_shown ?a_l_longer ?l_l_longer ?c_l_longer ?k_l_longer ?a_law ?l_law ?c_law ?k_law ?hg2 ?hk2 ?hs2 ?hd2 ?ha2 ?hn2 ?ht2 ?hm2 ?ia2 ?ib2 ?ic2 ?id2 ?ie2 ?sv2 ?sb2_10 ?hg3 ?hk3 ?hs3 ?hd3 ?ha3 ?hn3 ?ht3 ?hm3 ?ia3 ?ib3 ?ic3 ?id3 ?ie3 ?sv3 ?sb3_10 ?hg4 ?hk4 ?hs4 ?hd4 ?ha4 ?hn4 ?ht4 ?hm4 ?ia4 ?ib4 ?ic4 ?id4 ?ie4 ?sv4 ?sb4_10 ?hg5 ?hk5 ?hs5 ?hd5 ?ha5 ?hn5 ?ht5 ?hm5 ?ia5 ?ib5 ?ic5 ?id5 ?ie5 ?sv5 ?sb5_10 ?hg9 ?hk9 ?hs9 ?hd9 ?ha9 ?hn9 ?ht9 ?hm9 ?ia9 ?ib9 ?ic9 ?id9 ?ie9 ?sv9 ?sb9_10 ?ci10 ?ct10 ?be10 ?ci9 ?ct9 ?sb9_9 ?no_wish ?no_reached ?no_part ?r1 ?r2 ?r3 ?oc4 ?os4 ?ct4 ?xk4 ?oi4 ?ot4 ?l_NoWay_init ?c_NoWay_init ?k_NoWay_init ?oc9 ?os9 ?xk9 ?oi9 ?ot9 ?l_NoText_init ?c_NoText_init ?k_NoText_init
    (case g2 => k_is)
    (case g3 => k_is)
    (case g4 => k_is)
    (case g5 => k_is)
    (case g9 => k_is)
    (case g10 => k_is)
    (case z_abs => k_is)
    (case z_bool => k_is)
    (case z_enumerate => k_is)
    (case z_int => k_is)
    (case z_isinstance => k_is)
    (case z_len => k_is)
    (case z_list => k_is)
    (case z_range => k_is)
    (case z_sorted => k_is)
    (case z_str => k_is)
    (case z_sum => k_is)
    (case z_tuple => k_is)
    (case x2 => k_exc)
    (case xk2 => k_is)
    (case xb2 => k_is)
    (case xt2 => k_is)
    (case x3 => k_exc)
    (case xk3 => k_is)
    (case xb3 => k_is)
    (case xt3 => k_is)
    (case x5 => k_exc)
    (case xk5 => k_is)
    (case xb5 => k_is)
    (case xt5 => k_is)
    (case k_FIGURES => k_is)
    (case k_LONGEST => k_is)
    (case k_MOST_PLACES => k_is)
    (case k_MOST_ROADS => k_is)
    (case k_MOST_WAYS => k_is)
    (case k_MOST_WISHES => k_is)
    (case a_is_whole => k_is)
    (case l_is_whole => k_is)
    (case c_is_whole => k_is)
    (case k_is_whole => k_is)
    (case a_common_part => k_is)
    (case l_common_part => k_is)
    (case c_common_part => k_is)
    (case k_common_part => k_is)
    (case a_is_fraction => k_is)
    (case l_is_fraction => k_is)
    (case c_is_fraction => k_is)
    (case k_is_fraction => k_is)
    (case a_is_place => k_is)
    (case l_is_place => k_is)
    (case c_is_place => k_is)
    (case k_is_place => k_is)
    (case a_two_places => k_is)
    (case l_two_places => k_is)
    (case c_two_places => k_is)
    (case k_two_places => k_is)
    (case a_from_nought => k_is)
    (case l_from_nought => k_is)
    (case c_from_nought => k_is)
    (case k_from_nought => k_is)
    (case a_road_fits => k_is)
    (case l_road_fits => k_is)
    (case c_road_fits => k_is)
    (case k_road_fits => k_is)
    (case a_made_net => k_is)
    (case l_made_net => k_is)
    (case c_made_net => k_is)
    (case k_made_net => k_is)
    (case a_usable_roads => k_is)
    (case l_usable_roads => k_is)
    (case c_usable_roads => k_is)
    (case k_usable_roads => k_is)
    (case a_reached_from => k_is)
    (case l_reached_from => k_is)
    (case c_reached_from => k_is)
    (case k_reached_from => k_is)
    (case a_ways_between => k_is)
    (case l_ways_between => k_is)
    (case c_ways_between => k_is)
    (case k_ways_between => k_is)
    (case a_ask_way => k_is)
    (case l_ask_way => k_is)
    (case c_ask_way => k_is)
    (case k_ask_way => k_is)
    (case a_wish_fits => k_is)
    (case l_wish_fits => k_is)
    (case c_wish_fits => k_is)
    (case k_wish_fits => k_is)
    (case a_ways_of => k_is)
    (case l_ways_of => k_is)
    (case c_ways_of => k_is)
    (case k_ways_of => k_is)
    (case a_made_wishes => k_is)
    (case l_made_wishes => k_is)
    (case c_made_wishes => k_is)
    (case k_made_wishes => k_is)
    (case a_whole_read => k_is)
    (case l_whole_read => k_is)
    (case c_whole_read => k_is)
    (case k_whole_read => k_is)
    (case a_fraction_read => k_is)
    (case l_fraction_read => k_is)
    (case c_fraction_read => k_is)
    (case k_fraction_read => k_is)
    (case a_figure_read => k_is)
    (case l_figure_read => k_is)
    (case c_figure_read => k_is)
    (case k_figure_read => k_is)
    (case a_row_read => k_is)
    (case l_row_read => k_is)
    (case c_row_read => k_is)
    (case k_row_read => k_is)
    (case a_places_read => k_is)
    (case l_places_read => k_is)
    (case c_places_read => k_is)
    (case k_places_read => k_is)
    (case a_read_net => k_is)
    (case l_read_net => k_is)
    (case c_read_net => k_is)
    (case k_read_net => k_is)
    (case a_fraction_text => k_is)
    (case l_fraction_text => k_is)
    (case c_fraction_text => k_is)
    (case k_fraction_text => k_is)
    (case a_net_text => k_is)
    (case l_net_text => k_is)
    (case c_net_text => k_is)
    (case k_net_text => k_is)
    (case a_l_whole => k_is)
    (case l_l_whole => k_is)
    (case c_l_whole => k_is)
    (case k_l_whole => k_is)
    (case a_l_cell => k_is)
    (case l_l_cell => k_is)
    (case c_l_cell => k_is)
    (case k_l_cell => k_is)
    (case a_l_mixed => k_is)
    (case l_l_mixed => k_is)
    (case c_l_mixed => k_is)
    (case k_l_mixed => k_is)
    (case a_l_divisor => k_is)
    (case l_l_divisor => k_is)
    (case c_l_divisor => k_is)
    (case k_l_divisor => k_is)
    (case a_l_fraction => k_is)
    (case l_l_fraction => k_is)
    (case c_l_fraction => k_is)
    (case k_l_fraction => k_is)
    (case a_l_listed => k_is)
    (case l_l_listed => k_is)
    (case c_l_listed => k_is)
    (case k_l_listed => k_is)
    (case a_l_many => k_is)
    (case l_l_many => k_is)
    (case c_l_many => k_is)
    (case k_l_many => k_is)
    (case a_l_wishes => k_is)
    (case l_l_wishes => k_is)
    (case c_l_wishes => k_is)
    (case k_l_wishes => k_is)
    (case a_l_road => k_is)
    (case l_l_road => k_is)
    (case c_l_road => k_is)
    (case k_l_road => k_is)
    (case a_l_begun => k_is)
    (case l_l_begun => k_is)
    (case c_l_begun => k_is)
    (case k_l_begun => k_is)
    (case a_l_roads => k_is)
    (case l_l_roads => k_is)
    (case c_l_roads => k_is)
    (case k_l_roads => k_is)
    (case a_l_number => k_is)
    (case l_l_number => k_is)
    (case c_l_number => k_is)
    (case k_l_number => k_is)
    (case a_l_words => k_is)
    (case l_l_words => k_is)
    (case c_l_words => k_is)
    (case k_l_words => k_is)
    (case a_l_alike => k_is)
    (case l_l_alike => k_is)
    (case c_l_alike => k_is)
    (case k_l_alike => k_is)
    (case a_l_shown => k_is)
    (case l_l_shown => k_is)
    (case c_l_shown => k_is)
    (case k_l_shown => k_is)
    (case a_l_longer => k_is)
    (case l_l_longer => k_is)
    (case c_l_longer => k_is)
    (case k_l_longer => k_is)
    (case a_law => k_is)
    (case l_law => k_is)
    (case c_law => k_is)
    (case k_law => k_is)
    (case hg2 => k_is)
    (case hk2 => k_is)
    (case hs2 => k_is)
    (case hd2 => k_is)
    (case ha2 => k_is)
    (case hn2 => k_is)
    (case ht2 => k_is)
    (case hm2 => k_is)
    (case ia2 => k_is)
    (case ib2 => k_is)
    (case ic2 => k_is)
    (case id2 => k_is)
    (case ie2 => k_is)
    (case sv2 => k_is)
    (case sb2_10 => k_is)
    (case hg3 => k_is)
    (case hk3 => k_is)
    (case hs3 => k_is)
    (case hd3 => k_is)
    (case ha3 => k_is)
    (case hn3 => k_is)
    (case ht3 => k_is)
    (case hm3 => k_is)
    (case ia3 => k_is)
    (case ib3 => k_is)
    (case ic3 => k_is)
    (case id3 => k_is)
    (case ie3 => k_is)
    (case sv3 => k_is)
    (case sb3_10 => k_is)
    (case hg4 => k_is)
    (case hk4 => k_is)
    (case hs4 => k_is)
    (case hd4 => k_is)
    (case ha4 => k_is)
    (case hn4 => k_is)
    (case ht4 => k_is)
    (case hm4 => k_is)
    (case ia4 => k_is)
    (case ib4 => k_is)
    (case ic4 => k_is)
    (case id4 => k_is)
    (case ie4 => k_is)
    (case sv4 => k_is)
    (case sb4_10 => k_is)
    (case hg5 => k_is)
    (case hk5 => k_is)
    (case hs5 => k_is)
    (case hd5 => k_is)
    (case ha5 => k_is)
    (case hn5 => k_is)
    (case ht5 => k_is)
    (case hm5 => k_is)
    (case ia5 => k_is)
    (case ib5 => k_is)
    (case ic5 => k_is)
    (case id5 => k_is)
    (case ie5 => k_is)
    (case sv5 => k_is)
    (case sb5_10 => k_is)
    (case hg9 => k_is)
    (case hk9 => k_is)
    (case hs9 => k_is)
    (case hd9 => k_is)
    (case ha9 => k_is)
    (case hn9 => k_is)
    (case ht9 => k_is)
    (case hm9 => k_is)
    (case ia9 => k_is)
    (case ib9 => k_is)
    (case ic9 => k_is)
    (case id9 => k_is)
    (case ie9 => k_is)
    (case sv9 => k_is)
    (case sb9_10 => k_is)
    (case ci10 => k_is)
    (case ct10 => k_is)
    (case be10 => k_is)
    (case ci9 => k_is)
    (case ct9 => k_is)
    (case sb9_9 => k_is)
    (case no_wish => k_is)
    (case no_reached => k_is)
    (case no_part => k_is)
    (case r1 => k_is)
    (case r2 => k_is)
    (case r3 => k_is)
    (case oc4 => (apply D.oex_of; (case h1 => first | k_is | rfl | decide +kernel); (case h2 => first | decide +kernel | rfl)))
    (case os4 => k_is)
    (case ct4 => k_is)
    (case xk4 => k_is)
    (case oi4 => k_is)
    (case ot4 => k_is)
    (case l_NoWay_init => k_is)
    (case c_NoWay_init => k_is)
    (case k_NoWay_init => k_is)
    (case oc9 => (apply D.oex_of; (case h1 => first | k_is | rfl | decide +kernel); (case h2 => first | decide +kernel | rfl)))
    (case os9 => k_is)
    (case xk9 => k_is)
    (case oi9 => k_is)
    (case ot9 => k_is)
    (case l_NoText_init => k_is)
    (case c_NoText_init => k_is)
    (case k_NoText_init => k_is)
  case S =>
    intro ns hl
    exact ⟨ns, hl, rfl, by rw [K61.law_ok hl]⟩

end
