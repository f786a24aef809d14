import PyProof.Rows.All
import Wide.All
import OpenK.AllK
import Wide.FinOn
import HandS.ForMost
import HandS.Wide
import HandS.WideBits
import HandS.Deep
import HandS.IsInst
import HandS.Style
import HandS.Flow
import HandS.TupLe
import HandS.Exc
import HandS.EndBits
import KE.LtSeq
import HandS.Defaults
import HandS.Head0
import HandS.Head1
import HandS.Head2
import HandS.HeadEnd
import HandS.HeadHook1
import HandS.HeadHook2
import HandS.SetFor
import KE.DataFind
import PyProof.Rows.AssignMoreSeq
import KE.DataCmp
import HandS.Dict
import HandS.Keys
import PyProof.ReprRoads
import PyProof.ReprText
import HandS.ExcOwn
import HandS.WordsExc
import HandS.CallSlots
import HandS.ExcIs
import HandS.ExcBuiltin
import PySem.Challenge.RW_ringkinds_k07_refused
set_option Elab.async false
set_option linter.all false
set_option maxRecDepth 100000
set_option maxHeartbeats 1000000
/-! Abstract values over the hand layer: what a value is, whatever heap bears it. -/
namespace Ab
open PySem L2

/-! ### heaps that grow -/
def Gr (H H' : Hp) : Prop := ∀ a o, H a = some o → H' a = some o
theorem Gr.refl (H : Hp) : Gr H H := fun _ _ h => h
theorem Gr.trans {H H1 H2 : Hp} (a : Gr H H1) (b : Gr H1 H2) : Gr H H2 := fun c o h => b c o (a c o h)
theorem Gr.new {H : Hp} {p : Addr} {o : HO} (h : H p = none) : Gr H (upd H p o) := fun a u e => by
  rw [upd_ne (ne_of_none e h)]; exact e
theorem Gr.back {H H' : Hp} {p : Addr} (e : Gr H H') (h : H' p = none) : H p = none := by
  cases q : H p with
  | none => rfl
  | some o => rw [e p o q] at h; cases h
theorem Gr.sq {K : PySem.W.Frag} {H H' : Hp} {a : Addr} {xs : List V} (e : Gr H H') (h : SqL K H a xs) : SqL K H' a xs := by
  rcases h with (h | ⟨o, h⟩) | h
  · exact .inl (.inl (e _ _ h))
  · exact .inl (.inr ⟨o, e _ _ h⟩)
  · exact .inr h

/-- an abstract value: what is said of a value and of the heap that bears it; it stays said when the heap grows -/
structure AV where
  p : Hp → V → Prop
  mono : ∀ {H H' : Hp} {v : V}, Gr H H' → p H v → p H' v

abbrev Reps (H : Hp) : List V → List AV → Prop := Paired fun (x : V) (a : AV) => a.p H x
theorem Reps.mono {H H' : Hp} (e : Gr H H') : ∀ {xs : List V} {l : List AV}, Reps H xs l → Reps H' xs l
  | _, _, .nil => .nil
  | _, _, .cons h t => .cons (AV.mono _ e h) (Reps.mono e t)
theorem Reps.length {H : Hp} {xs : List V} {l : List AV} (h : Reps H xs l) : xs.length = l.length := Paired.length h
theorem Reps.get {H : Hp} : ∀ {xs : List V} {l : List AV} {i : Nat} {a : AV}, Reps H xs l → l[i]? = some a → ∃ x, xs[i]? = some x ∧ a.p H x
  | _, _, _, _, .nil, e => by simp at e
  | _, _, 0, _, .cons h _, e => by simp at e; subst e; exact ⟨_, rfl, h⟩
  | _, _, i + 1, _, .cons _ t, e => by
    obtain ⟨x, h1, h2⟩ := Reps.get (i := i) t (by simpa using e)
    exact ⟨x, by simpa using h1, h2⟩
theorem Reps.get' {H : Hp} : ∀ {xs : List V} {l : List AV} {i : Nat} {x : V}, Reps H xs l → xs[i]? = some x → ∃ a, l[i]? = some a ∧ a.p H x
  | _, _, _, _, .nil, e => by simp at e
  | _, _, 0, _, .cons h _, e => by simp at e; subst e; exact ⟨_, rfl, h⟩
  | _, _, i + 1, _, .cons _ t, e => by
    obtain ⟨x, h1, h2⟩ := Reps.get' (i := i) t (by simpa using e)
    exact ⟨x, by simpa using h1, h2⟩
theorem Reps.append {H : Hp} : ∀ {xs ys : List V} {l m : List AV}, Reps H xs l → Reps H ys m → Reps H (xs ++ ys) (l ++ m)
  | _, _, _, _, .nil, s => s
  | _, _, _, _, .cons h t, s => .cons h (Reps.append t s)
theorem Reps.take {H : Hp} : ∀ {xs : List V} {l : List AV} (n : Nat), Reps H xs l → Reps H (xs.take n) (l.take n)
  | _, _, 0, _ => by rw [List.take_zero, List.take_zero]; exact .nil
  | _, _, n + 1, .nil => by simp; exact .nil
  | _, _, n + 1, .cons h t => by simp; exact .cons h (Reps.take n t)
theorem Reps.drop {H : Hp} : ∀ {xs : List V} {l : List AV} (n : Nat), Reps H xs l → Reps H (xs.drop n) (l.drop n)
  | _, _, 0, h => by simpa using h
  | _, _, n + 1, .nil => by simp; exact .nil
  | _, _, n + 1, .cons h t => by simp; exact Reps.drop n t
theorem Reps.reverse {H : Hp} : ∀ {xs : List V} {l : List AV}, Reps H xs l → Reps H xs.reverse l.reverse
  | _, _, .nil => .nil
  | _, _, .cons h t => by
    rw [List.reverse_cons, List.reverse_cons]
    exact Reps.append (Reps.reverse t) (.cons h .nil)
theorem Reps.set {H : Hp} {x : V} {a : AV} (h : a.p H x) : ∀ {xs : List V} {l : List AV} (i : Nat), Reps H xs l → Reps H (xs.set i x) (l.set i a)
  | _, _, _, .nil => .nil
  | _, _, 0, .cons _ t => .cons h t
  | _, _, i + 1, .cons q t => .cons q (Reps.set h i t)

namespace AV
def cst (v0 : V) : AV := ⟨fun _ v => v = v0, fun _ h => h⟩
abbrev int (i : Int) : AV := cst (.int i)
abbrev bl (b : Bool) : AV := cst (.bl b)
abbrev non : AV := cst .non
abbrev str (s : Str) : AV := cst (.str s)
def lst (l : List AV) : AV := ⟨fun H v => ∃ a xs, v = .ref a ∧ H a = some (.lst xs) ∧ Reps H xs l,
  fun e ⟨a, xs, h1, h2, h3⟩ => ⟨a, xs, h1, e _ _ h2, h3.mono e⟩⟩
def tup (l : List AV) : AV := ⟨fun H v => ∃ a xs, v = .ref a ∧ H a = some (.tup xs) ∧ Reps H xs l,
  fun e ⟨a, xs, h1, h2, h3⟩ => ⟨a, xs, h1, e _ _ h2, h3.mono e⟩⟩
/-- a list that may only be read (the script) -/
def rdo (K : PySem.W.Frag) (l : List AV) : AV := ⟨fun H v => ∃ a xs, v = .ref a ∧ SqL K H a xs ∧ Reps H xs l,
  fun e ⟨a, xs, h1, h2, h3⟩ => ⟨a, xs, h1, e.sq h2, h3.mono e⟩⟩
/-- a dict: keys and values in their order -/
def dic (kvs : List (Key × AV)) : AV := ⟨fun H v => ∃ a vs, v = .ref a ∧ H a = some (.dK ((kvs.map Prod.fst).zip vs)) ∧ Reps H vs (kvs.map Prod.snd),
  fun e ⟨a, vs, h1, h2, h3⟩ => ⟨a, vs, h1, e _ _ h2, h3.mono e⟩⟩
/-- an instance with its fields -/
def ins (C : Addr) (fs : List (Str × AV)) : AV := ⟨fun H v => ∃ a dx vs, v = .ref a ∧ H a = some (.ins C dx ((fs.map Prod.fst).zip vs)) ∧ H dx = some (.own a) ∧ Reps H vs (fs.map Prod.snd),
  fun e ⟨a, dx, vs, h1, h2, h3, h4⟩ => ⟨a, dx, vs, h1, e _ _ h2, e _ _ h3, h4.mono e⟩⟩
abbrev il (ns : List Int) : AV := lst (ns.map int)
abbrev ll (rs : List (List Int)) : AV := lst (rs.map il)
end AV

theorem reps_cst {H : Hp} : ∀ {xs vs : List V}, Reps H xs (vs.map AV.cst) → xs = vs
  | [], [], _ => rfl
  | _ :: _, [], h => nomatch h
  | [], _ :: _, h => nomatch h
  | x :: xs, v :: vs, h => by
    cases h with
    | cons h t => rw [show x = v from h, reps_cst t]
theorem reps_of_cst {H : Hp} : ∀ (vs : List V), Reps H vs (vs.map AV.cst)
  | [] => .nil
  | v :: vs => .cons rfl (reps_of_cst vs)
theorem map_int_cst (ns : List Int) : ns.map AV.int = (ns.map V.int).map AV.cst := by rw [List.map_map]; rfl
theorem map_bl_cst (ns : List Bool) : ns.map AV.bl = (ns.map V.bl).map AV.cst := by rw [List.map_map]; rfl
theorem reps_ints {H : Hp} {xs : List V} {ns : List Int} (h : Reps H xs (ns.map AV.int)) : xs = ns.map V.int := by
  rw [map_int_cst] at h; exact reps_cst h
theorem reps_bls {H : Hp} {xs : List V} {ns : List Bool} (h : Reps H xs (ns.map AV.bl)) : xs = ns.map V.bl := by
  rw [map_bl_cst] at h; exact reps_cst h
theorem reps_of_ints {H : Hp} (ns : List Int) : Reps H (ns.map V.int) (ns.map AV.int) := by
  rw [map_int_cst]; exact reps_of_cst _

/-! ### a step of the two heaps: B, what is fixed; H, all -/
structure Ext (B H B' H' : Hp) : Prop where
  b : Gr B B'
  h : Gr H H'
  s : Gr B' H'
  f : ∀ x o, H x = some o → B' x = B x
theorem Ext.refl {B H : Hp} (s : Gr B H) : Ext B H B H := ⟨.refl _, .refl _, s, fun _ _ _ => rfl⟩
theorem Ext.trans {B H B1 H1 B2 H2 : Hp} (a : Ext B H B1 H1) (c : Ext B1 H1 B2 H2) : Ext B H B2 H2 :=
  ⟨a.b.trans c.b, a.h.trans c.h, c.s, fun x o e => (c.f x o (a.h x o e)).trans (a.f x o e)⟩
theorem Ext.new {B H : Hp} {p : Addr} {o : HO} (s : Gr B H) (hp : H p = none) : Ext B H (upd B p o) (upd H p o) :=
  ⟨.new (s.back hp), .new hp, fun x u e => by
    by_cases hx : x = p
    · subst hx; rw [upd_same] at e ⊢; exact e
    · rw [upd_ne hx] at e ⊢; exact s x u e, fun x u e => upd_ne (ne_of_none e hp)⟩
/-- a new object that is not fixed yet -/
theorem Ext.newO {B H : Hp} {p : Addr} {o : HO} (s : Gr B H) (hp : H p = none) : Ext B H B (upd H p o) :=
  ⟨.refl _, .new hp, s.trans (.new hp), fun _ _ _ => rfl⟩
/-- what is not fixed gets fixed -/
theorem Ext.fix {B H B' H' : Hp} {p : Addr} {o : HO} (e : Ext B H B' H') (hp : H p = none) (hb : B' p = none) (ho : H' p = some o) : Ext B H (upd B' p o) H' :=
  ⟨e.b.trans (.new hb), e.h, fun x u q => by
    by_cases hx : x = p
    · subst hx; rw [upd_same] at q; cases q; exact ho
    · rw [upd_ne hx] at q; exact e.s x u q, fun x u q => (upd_ne (ne_of_none q hp)).trans (e.f x u q)⟩
/-- what is not fixed changes -/
theorem Ext.chg {B H B' H' : Hp} {p : Addr} {o : HO} (e : Ext B H B' H') (hp : H p = none) (hb : B' p = none) : Ext B H B' (upd H' p o) :=
  ⟨e.b, fun x u q => by rw [upd_ne (ne_of_none q hp)]; exact e.h x u q, fun x u q => by rw [upd_ne (ne_of_none q hb)]; exact e.s x u q, e.f⟩

/-! ### abstract states -/
/-- what a slot alone may hold: a list; a list of lists; an instance whose fields are lists -/
inductive Shp where
  | bare
  | list
  | ins (C : Addr) (ns : List Str)
  | dic (kvs : List (Key × AV))
inductive Slot where
  | val (a : AV)
  /-- things that this slot alone holds: the lists in them -/
  | ow (sh : Shp) (ls : List (List AV))
/-- a list that this slot alone holds -/
abbrev Slot.own (l : List AV) : Slot := .ow .bare [l]
abbrev Tau := List (Option Slot)
def LstAt (B H : Hp) (q : Addr) (l : List AV) : Prop := ∃ xs, H q = some (.lst xs) ∧ Reps B xs l
inductive Root (B H : Hp) : Shp → V → List Addr → List Addr → Prop where
  | bare (p : Addr) : Root B H .bare (.ref p) [] [p]
  | list {r : Addr} {ps : List Addr} (e : H r = some (.lst (ps.map .ref))) : Root B H .list (.ref r) [r] ps
  | ins {r dx C : Addr} {ns : List Str} {ps : List Addr} (e : H r = some (.ins C dx (ns.zip (ps.map .ref)))) (h : H dx = some (.own r)) (hl : ns.length = ps.length) : Root B H (.ins C ns) (.ref r) [r, dx] ps
  | dic {r : Addr} {kvs : List (Key × AV)} {vs : List V} (e : H r = some (.dK ((kvs.map Prod.fst).zip vs))) (h : Reps B vs (kvs.map Prod.snd)) : Root B H (.dic kvs) (.ref r) [r] []
structure OwnAt (F B H : Hp) (v : V) (sh : Shp) (ls : List (List AV)) (fp : List Addr) : Prop where
  ex : ∃ rs ps, fp = rs ++ ps ∧ Root B H sh v rs ps ∧ Paired (LstAt B H) ps ls
  nd : fp.Nodup
  nf : ∀ x ∈ fp, F x = none ∧ B x = none
theorem paired_imp {α β : Type} {R S : α → β → Prop} : ∀ {as : List α} {bs : List β}, (∀ a b, a ∈ as → R a b → S a b) → Paired R as bs → Paired S as bs
  | _, _, _, .nil => .nil
  | _, _, h, .cons q t => .cons (h _ _ List.mem_cons_self q) (paired_imp (fun a b m => h a b (List.mem_cons_of_mem _ m)) t)
theorem paired_left {α β : Type} {R : α → β → Prop} : ∀ {as : List α} {bs : List β}, Paired R as bs → ∀ a ∈ as, ∃ b, R a b
  | _, _, .nil, _, h => by cases h
  | _, _, .cons q t, a, h => by
    rcases List.mem_cons.mp h with rfl | h
    · exact ⟨_, q⟩
    · exact paired_left t a h
theorem Root.keep {B B' H H' : Hp} {sh : Shp} {v : V} {rs ps : List Addr} (r : Root B H sh v rs ps) (g : Gr B B') (k : ∀ x ∈ rs, ∀ u, H x = some u → H' x = some u) : Root B' H' sh v rs ps := by
  cases r with
  | bare p => exact .bare p
  | list e => exact .list (k _ (by simp) _ e)
  | ins e h hl => exact .ins (k _ (by simp) _ e) (k _ (by simp) _ h) hl
  | dic e h => exact .dic (k _ (by simp) _ e) (h.mono g)
theorem Root.at {B H : Hp} {sh : Shp} {v : V} {rs ps : List Addr} (r : Root B H sh v rs ps) : ∀ x ∈ rs, ∃ u, H x = some u := by
  cases r with
  | bare p => intro x h; cases h
  | list e => intro x h; simp at h; subst h; exact ⟨_, e⟩
  | ins e h hl =>
    intro x q
    simp at q
    rcases q with rfl | rfl
    · exact ⟨_, e⟩
    · exact ⟨_, h⟩
  | dic e h => intro x h; simp at h; subst h; exact ⟨_, e⟩
section
variable {F B B' H H' : Hp} {v : V} {sh : Shp} {ls : List (List AV)} {fp : List Addr}
theorem OwnAt.keep (o : OwnAt F B H v sh ls fp) (g : Gr B B') (hb : ∀ x ∈ fp, B' x = none) (hh : ∀ x ∈ fp, ∀ u, H x = some u → H' x = some u) : OwnAt F B' H' v sh ls fp := by
  obtain ⟨rs, ps, e, r, p⟩ := o.ex
  refine ⟨⟨rs, ps, e, r.keep g fun x h => hh x (by rw [e]; exact List.mem_append_left _ h), paired_imp (fun a b m ⟨xs, h1, h2⟩ => ⟨xs, hh a (by rw [e]; exact List.mem_append_right _ m) _ h1, h2.mono g⟩) p⟩, o.nd, fun x h => ⟨(o.nf x h).1, hb x h⟩⟩
theorem OwnAt.at (o : OwnAt F B H v sh ls fp) : ∀ x ∈ fp, ∃ u, H x = some u := by
  obtain ⟨rs, ps, e, r, p⟩ := o.ex
  intro x h
  rw [e] at h
  rcases List.mem_append.mp h with h | h
  · exact r.at x h
  · obtain ⟨b, xs, h1, _⟩ := paired_left p x h
    exact ⟨_, h1⟩
theorem paired_set {α β : Type} {R S : α → β → Prop} : ∀ {as : List α} {bs : List β} {k : Nat} {a : α} {b : β}, Paired R as bs → as[k]? = some a → (∀ (j : Nat) x y, j ≠ k → as[j]? = some x → R x y → S x y) → S a b → Paired S as (bs.set k b)
  | _, _, _, _, _, .nil, e, _, _ => by simp at e
  | _, _, 0, a, b, .cons q t, e, h, s => by
    simp at e
    subst e
    refine .cons s (paired_nth t fun j x y hx hr => h (j + 1) x y (by omega) (by simpa using hx) hr)
  | _, _, k + 1, a, b, .cons q t, e, h, s => by
    refine .cons (h 0 _ _ (by omega) rfl q) (paired_set t (by simpa using e) (fun j x y hj hx hr => h (j + 1) x y (by omega) (by simpa using hx) hr) s)
where paired_nth {α β : Type} {R S : α → β → Prop} : ∀ {as : List α} {bs : List β}, Paired R as bs → (∀ (j : Nat) x y, as[j]? = some x → R x y → S x y) → Paired S as bs
  | _, _, .nil, _ => .nil
  | _, _, .cons q t, h => .cons (h 0 _ _ rfl q) (paired_nth t fun j x y hx hr => h (j + 1) x y (by simpa using hx) hr)
/-- a part changes -/
theorem OwnAt.chg {rs ps : List Addr} {k : Nat} {q : Addr} {m : List AV} {ys : List V} (e : fp = rs ++ ps) (r : Root B H sh v rs ps) (p : Paired (LstAt B H) ps ls) (nd : fp.Nodup) (nf : ∀ x ∈ fp, F x = none ∧ B x = none) (hk : ps[k]? = some q) (hr : Reps B ys m) :
    OwnAt F B (upd H q (.lst ys)) v sh (ls.set k m) fp := by
  subst e
  have nd2 := List.nodup_append.mp nd
  have hq : q ∈ ps := List.mem_of_getElem? hk
  refine ⟨⟨rs, ps, rfl, r.keep (.refl _) fun x hx u hu => ?_, paired_set p hk (fun j x y hj hx ⟨xs, h1, h2⟩ => ⟨xs, ?_, h2⟩) ⟨ys, upd_same, hr⟩⟩, nd, nf⟩
  · rw [upd_ne fun z => nd2.2.2 x hx q hq z]; exact hu
  · rw [upd_ne fun z => ?_]
    · exact h1
    · subst z
      have b1 := (List.getElem?_eq_some_iff.mp hx)
      have b2 := (List.getElem?_eq_some_iff.mp hk)
      obtain ⟨l1, e1⟩ := b1
      obtain ⟨l2, e2⟩ := b2
      exact hj ((List.getElem_inj nd2.2.1).mp (e1.trans e2.symm))
end
structure Sta (F0 F B : Hp) (σ : St) (H : Hp) (τ : Tau) : Prop where
  ext : Ext F0 F B H
  len : σ.length = τ.length
  val : ∀ (i : Nat) a, τ[i]? = some (some (.val a)) → ∃ v, σ[i]? = some (some v) ∧ a.p B v
  ow : ∃ fp : Nat → List Addr, (∀ (i : Nat) sh ls, τ[i]? = some (some (.ow sh ls)) → ∃ v, σ[i]? = some (some v) ∧ OwnAt F B H v sh ls (fp i)) ∧
    ∀ (i j : Nat) sh ls sh' ls' x, i ≠ j → τ[i]? = some (some (.ow sh ls)) → τ[j]? = some (some (.ow sh' ls')) → x ∈ fp i → x ∈ fp j → False
/-- what stands in a list behind a store -/
theorem set_was {α : Type} {l : List α} {i j : Nat} {x y : α} (h : (l.set i x)[j]? = some y) : (i = j ∧ i < l.length ∧ x = y) ∨ (i ≠ j ∧ l[j]? = some y) := by
  by_cases hj : i = j
  · subst hj
    by_cases hl : i < l.length
    · rw [List.getElem?_set_self hl] at h
      exact .inl ⟨rfl, hl, Option.some.inj h⟩
    · rw [List.getElem?_eq_none (by rw [List.length_set]; omega)] at h; cases h
  · rw [List.getElem?_set_ne hj] at h
    exact .inr ⟨hj, h⟩
section
variable {F0 F B B' : Hp} {σ : St} {H H' : Hp} {τ : Tau}
theorem Sta.gr (S : Sta F0 F B σ H τ) : Gr B H := S.ext.s
theorem Sta.step (S : Sta F0 F B σ H τ) (e : Ext B H B' H') : Sta F0 F B' σ H' τ where
  ext := S.ext.trans e
  len := S.len
  val := fun i a h => let ⟨v, h1, h2⟩ := S.val i a h; ⟨v, h1, a.mono e.b h2⟩
  ow := by
    obtain ⟨fp, h1, h2⟩ := S.ow
    refine ⟨fp, fun i sh ls h => ?_, h2⟩
    obtain ⟨v, k1, k2⟩ := h1 i sh ls h
    refine ⟨v, k1, k2.keep e.b (fun x hx => ?_) fun x _ u hu => e.h x u hu⟩
    obtain ⟨u, hu⟩ := k2.at x hx
    exact (e.f x u hu).trans (k2.nf x hx).2
/-- a slot gets a value, or is forgotten -/
theorem Sta.put {i : Nat} {v : Option V} {o : Option AV} (S : Sta F0 F B σ H τ) (h : ∀ a, o = some a → ∃ x, v = some x ∧ a.p B x) : Sta F0 F B (σ.set i v) H (τ.set i (o.map .val)) where
  ext := S.ext
  len := by rw [List.length_set, List.length_set]; exact S.len
  val := fun j c q => by
    rcases set_was q with ⟨rfl, hl, e⟩ | ⟨hj, q⟩
    · cases o with
      | none => cases e
      | some a =>
        cases e
        obtain ⟨x, rfl, hx⟩ := h _ rfl
        exact ⟨x, List.getElem?_set_self (by rw [S.len]; exact hl), hx⟩
    · rw [List.getElem?_set_ne hj]
      exact S.val j c q
  ow := by
    obtain ⟨fp, h1, h2⟩ := S.ow
    have back : ∀ (j : Nat) sh ls, (τ.set i (o.map .val))[j]? = some (some (.ow sh ls)) → i ≠ j ∧ τ[j]? = some (some (.ow sh ls)) := fun j sh ls q => by
      rcases set_was q with ⟨rfl, hl, e⟩ | ⟨hj, q⟩
      · cases o <;> cases e
      · exact ⟨hj, q⟩
    refine ⟨fp, fun j sh ls q => ?_, fun j k sh ls sh' ls' x hjk q1 q2 => h2 j k sh ls sh' ls' x hjk (back j _ _ q1).2 (back k _ _ q2).2⟩
    obtain ⟨hj, q⟩ := back j _ _ q
    rw [List.getElem?_set_ne hj]
    exact h1 j sh ls q
theorem Sta.set {i : Nat} {v : V} {a : AV} (S : Sta F0 F B σ H τ) (h : a.p B v) : Sta F0 F B (σ.set i (some v)) H (τ.set i (some (.val a))) :=
  S.put (o := some a) fun c e => by cases e; exact ⟨v, rfl, h⟩
theorem Sta.none {i : Nat} {v : Option V} (S : Sta F0 F B σ H τ) : Sta F0 F B (σ.set i v) H (τ.set i none) :=
  S.put (o := Option.none) fun c e => by cases e
/-- a slot gets something new of its own -/
theorem Sta.newW {i : Nat} {v : V} {sh : Shp} {ls : List (List AV)} {fp0 : List Addr} (S0 : Sta F0 F B σ H τ) (e : Ext B H B' H') (o : OwnAt H B' H' v sh ls fp0) : Sta F0 F B' (σ.set i (some v)) H' (τ.set i (some (.ow sh ls))) := by
  have S := S0.step e
  refine ⟨S.ext, by rw [List.length_set, List.length_set]; exact S.len, fun j c q => ?_, ?_⟩
  · rcases set_was q with ⟨rfl, hl, e⟩ | ⟨hj, q⟩
    · cases e
    · rw [List.getElem?_set_ne hj]
      exact S.val j c q
  · obtain ⟨fp, g1, g2⟩ := S0.ow
    have old : ∀ (j : Nat) sh' ls' x, τ[j]? = some (some (.ow sh' ls')) → x ∈ fp j → x ∉ fp0 := fun j sh' ls' x q hx hz => by
      obtain ⟨w, _, k2⟩ := g1 j sh' ls' q
      obtain ⟨u, hu⟩ := k2.at x hx
      rw [(o.nf x hz).1] at hu
      cases hu
    refine ⟨fun j => if j = i then fp0 else fp j, fun j sh' ls' q => ?_, fun j k s1 l1 s2 l2 x hjk q1 q2 m1 m2 => ?_⟩
    · rcases set_was q with ⟨rfl, hl, e'⟩ | ⟨hj, q⟩
      · cases e'
        dsimp only
        rw [if_pos rfl]
        exact ⟨v, List.getElem?_set_self (by rw [S.len]; exact hl), o.ex, o.nd, fun x hx => ⟨S0.ext.h.back (o.nf x hx).1, (o.nf x hx).2⟩⟩
      · dsimp only
        rw [if_neg (Ne.symm hj), List.getElem?_set_ne hj]
        obtain ⟨w, k1, k2⟩ := g1 j sh' ls' q
        refine ⟨w, k1, k2.keep e.b (fun x hx => ?_) fun x _ u hu => e.h x u hu⟩
        obtain ⟨u, hu⟩ := k2.at x hx
        exact (e.f x u hu).trans (k2.nf x hx).2
    · rcases set_was q1 with ⟨rfl, hl, e1⟩ | ⟨hj, q1⟩
      · rcases set_was q2 with ⟨e2, _⟩ | ⟨hk, q2⟩
        · exact hjk e2
        · simp only [if_true] at m1
          simp only [if_neg (Ne.symm hk)] at m2
          exact old k _ _ x q2 m2 m1
      · simp only [if_neg (Ne.symm hj)] at m1
        rcases set_was q2 with ⟨rfl, hl, e2⟩ | ⟨hk, q2⟩
        · simp only [if_true] at m2
          exact old j _ _ x q1 m1 m2
        · simp only [if_neg (Ne.symm hk)] at m2
          exact g2 j k _ _ _ _ x hjk q1 q2 m1 m2
theorem ownAt_new {p : Addr} {xs : List V} {l : List AV} (n1 : H p = none) (n2 : B' p = none) (n3 : H' p = some (.lst xs)) (n4 : Reps B' xs l) : OwnAt H B' H' (.ref p) .bare [l] [p] :=
  ⟨⟨[], [p], rfl, .bare p, .cons ⟨xs, n3, n4⟩ .nil⟩, by simp, fun x hx => by simp at hx; subst hx; exact ⟨n1, n2⟩⟩
theorem Sta.newO {i : Nat} {p : Addr} {xs : List V} {l : List AV} (S : Sta F0 F B σ H τ) (e : Ext B H B' H') (n1 : H p = Option.none) (n2 : B' p = Option.none) (n3 : H' p = some (.lst xs)) (n4 : Reps B' xs l) : Sta F0 F B' (σ.set i (some (.ref p))) H' (τ.set i (some (.own l))) :=
  S.newW e (ownAt_new n1 n2 n3 n4)
/-- what a slot holds alone, and its change -/
theorem Sta.part {i : Nat} {sh : Shp} {ls : List (List AV)} (S : Sta F0 F B σ H τ) (hi : τ[i]? = some (some (.ow sh ls))) :
    ∃ v rs ps, σ[i]? = some (some v) ∧ Root B H sh v rs ps ∧ Paired (LstAt B H) ps ls ∧ (∀ x ∈ rs ++ ps, F x = Option.none ∧ B x = Option.none) ∧ ∀ (k : Nat) q m ys, ps[k]? = some q → Reps B ys m → Sta F0 F B σ (upd H q (.lst ys)) (τ.set i (some (.ow sh (ls.set k m)))) := by
  obtain ⟨fp, g1, g2⟩ := S.ow
  obtain ⟨v, k1, k2⟩ := g1 i sh ls hi
  obtain ⟨rs, ps, e, r, pr⟩ := k2.ex
  refine ⟨v, rs, ps, k1, r, pr, fun x hx => k2.nf x (by rw [e]; exact hx), fun k q m ys hk hr => ?_⟩
  have hq : q ∈ fp i := by rw [e]; exact List.mem_append_right _ (List.mem_of_getElem? hk)
  have hqq := k2.nf q hq
  have back : ∀ (j : Nat) s l, (τ.set i (some (.ow sh (ls.set k m))))[j]? = some (some (.ow s l)) → ∃ s l, τ[j]? = some (some (.ow s l)) := fun j s l q => by
    rcases set_was q with ⟨rfl, hl, e⟩ | ⟨hj, q⟩
    · exact ⟨_, _, hi⟩
    · exact ⟨_, _, q⟩
  refine ⟨S.ext.chg hqq.1 hqq.2, by rw [List.length_set]; exact S.len, fun j a q => ?_, fp, fun j s l q' => ?_, fun j k' s1 l1 s2 l2 x hjk q1 q2 => ?_⟩
  · rcases set_was q with ⟨rfl, hl, e⟩ | ⟨hj, q⟩
    · cases e
    · exact S.val j a q
  · rcases set_was q' with ⟨rfl, hl, e'⟩ | ⟨hj, q'⟩
    · cases e'
      exact ⟨v, k1, OwnAt.chg e r pr k2.nd k2.nf hk hr⟩
    · obtain ⟨w, m1, m2⟩ := g1 j s l q'
      refine ⟨w, m1, m2.keep (.refl _) (fun x hx => (m2.nf x hx).2) fun x hx u hu => ?_⟩
      rw [upd_ne fun z => ?_]
      · exact hu
      · subst z
        exact g2 i j _ _ _ _ x hj hi q' hq hx
  · obtain ⟨s1, l1, b1⟩ := back j _ _ q1
    obtain ⟨s2, l2, b2⟩ := back k' _ _ q2
    exact g2 j k' _ _ _ _ x hjk b1 b2
theorem Sta.own {i : Nat} {l : List AV} (S : Sta F0 F B σ H τ) (hi : τ[i]? = some (some (.own l))) : ∃ p xs, σ[i]? = some (some (.ref p)) ∧ F p = Option.none ∧ B p = Option.none ∧ H p = some (.lst xs) ∧ Reps B xs l := by
  obtain ⟨v, rs, ps, k1, r, pr, nf, _⟩ := S.part hi
  cases r with
  | bare p =>
    cases pr with
    | cons q t =>
      obtain ⟨xs, h1, h2⟩ := q
      exact ⟨p, xs, k1, (nf p (by simp)).1, (nf p (by simp)).2, h1, h2⟩
/-- an own list changes -/
theorem Sta.chg {i : Nat} {p : Addr} {ys : List V} {l m : List AV} (S : Sta F0 F B σ H τ) (hi : τ[i]? = some (some (.own l))) (hp : σ[i]? = some (some (.ref p))) (hr : Reps B ys m) :
    Sta F0 F B σ (upd H p (.lst ys)) (τ.set i (some (.own m))) := by
  obtain ⟨v, rs, ps, k1, r, pr, nf, g⟩ := S.part hi
  cases r with
  | bare q =>
    rw [hp] at k1
    have e : p = q := by injection k1 with k1; injection k1 with k1; injection k1
    subst e
    exact g 0 p m ys rfl hr
def valOf : Shp → List (List AV) → AV
  | .bare, ls => .lst (ls.headD [])
  | .list, ls => .lst (ls.map AV.lst)
  | .ins C ns, ls => .ins C (ns.zip (ls.map AV.lst))
  | .dic kvs, _ => .dic kvs
theorem paired_reps {B B1 H : Hp} : ∀ {ps : List Addr} {ls : List (List AV)}, (∀ x ∈ ps, ∀ u, H x = some u → B1 x = some u) → Gr B B1 → Paired (LstAt B H) ps ls → Reps B1 (ps.map V.ref) (ls.map AV.lst)
  | _, _, _, _, .nil => .nil
  | _, _, h, g, .cons ⟨xs, h1, h2⟩ t => .cons ⟨_, xs, rfl, h _ List.mem_cons_self _ h1, h2.mono g⟩ (paired_reps (fun x m => h x (List.mem_cons_of_mem _ m)) g t)
theorem valOf_p {B1 : Hp} {v : V} {sh : Shp} {ls : List (List AV)} {fp : List Addr} (o : OwnAt F B H v sh ls fp) (g : Gr B B1) (h : ∀ x ∈ fp, ∀ u, H x = some u → B1 x = some u) : (valOf sh ls).p B1 v := by
  obtain ⟨rs, ps, rfl, r, pr⟩ := o.ex
  have hp : Reps B1 (ps.map V.ref) (ls.map AV.lst) := paired_reps (fun x m => h x (List.mem_append_right _ m)) g pr
  have hr := r.keep g fun x m => h x (List.mem_append_left _ m)
  cases hr with
  | bare p =>
    cases pr with
    | cons q t =>
      cases t
      cases hp with
      | cons a b => exact a
  | list e => exact ⟨_, _, rfl, e, hp⟩
  | dic e he => exact ⟨_, _, rfl, e, he⟩
  | @ins rr dx C ns ps e hd hl =>
    have hl2 : ps.length = ls.length := pr.length
    have e1 : (ns.zip (ls.map AV.lst)).map Prod.fst = ns := by rw [List.map_fst_zip]; rw [List.length_map]; omega
    have e2 : (ns.zip (ls.map AV.lst)).map Prod.snd = ls.map AV.lst := by rw [List.map_snd_zip]; rw [List.length_map]; omega
    exact ⟨rr, dx, _, rfl, by rw [e1]; exact e, hd, by rw [e2]; exact hp⟩
/-- what a slot alone holds gets fixed: the slot holds a value from then on -/
theorem Sta.fixW {i : Nat} {sh : Shp} {ls : List (List AV)} (S : Sta F0 F B σ H τ) (hi : τ[i]? = some (some (.ow sh ls))) : ∃ B1, Gr B B1 ∧ Sta F0 F B1 σ H (τ.set i (some (.val (valOf sh ls)))) := by
  obtain ⟨fp, g1, g2⟩ := S.ow
  obtain ⟨v, k1, k2⟩ := g1 i sh ls hi
  have hin : ∀ x, x ∈ fp i → (fun x => if x ∈ fp i then H x else B x) x = H x := fun x h => if_pos h
  have hout : ∀ x, x ∉ fp i → (fun x => if x ∈ fp i then H x else B x) x = B x := fun x h => if_neg h
  generalize hB : (fun x => if x ∈ fp i then H x else B x) = B1 at hin hout
  have gB : Gr B B1 := fun x u hu => by
    rw [hout x fun m => ?_]
    · exact hu
    · rw [(k2.nf x m).2] at hu; cases hu
  have hv : (valOf sh ls).p B1 v := valOf_p k2 gB fun x m u hu => (hin x m).trans hu
  refine ⟨B1, gB, ⟨S.ext.b.trans gB, S.ext.h, fun x u hu => ?_, fun x u hu => ?_⟩, by rw [List.length_set]; exact S.len, fun j a q => ?_, fp, fun j s l q => ?_, fun j k s1 l1 s2 l2 x hjk q1 q2 => ?_⟩
  · by_cases m : x ∈ fp i
    · rw [hin x m] at hu; exact hu
    · rw [hout x m] at hu; exact S.gr x u hu
  · rw [hout x fun m => ?_]
    · exact S.ext.f x u hu
    · rw [(k2.nf x m).1] at hu; cases hu
  · rcases set_was q with ⟨rfl, hl, e⟩ | ⟨hj, q⟩
    · cases e
      exact ⟨v, k1, hv⟩
    · obtain ⟨w, m1, m2⟩ := S.val j a q
      exact ⟨w, m1, a.mono gB m2⟩
  · rcases set_was q with ⟨rfl, hl, e⟩ | ⟨hj, q⟩
    · cases e
    · obtain ⟨w, m1, m2⟩ := g1 j s l q
      refine ⟨w, m1, m2.keep gB (fun x hx => ?_) fun x _ u hu => hu⟩
      rw [hout x fun m => g2 i j _ _ _ _ x hj hi q m hx]
      exact (m2.nf x hx).2
  · rcases set_was q1 with ⟨rfl, hl, e⟩ | ⟨hj, q1⟩
    · cases e
    · rcases set_was q2 with ⟨rfl, hl, e⟩ | ⟨hk, q2⟩
      · cases e
      · exact g2 j k _ _ _ _ x hjk q1 q2
end
end Ab
set_option Elab.async false
set_option linter.all false
set_option maxRecDepth 100000
set_option maxHeartbeats 1000000
namespace Ab
open PySem L2

/-! ### judgements: syntax and abstract values -/
def tE (τ : Tau) (a : AV) : TE := fun σ H Q => ∃ F0 F B, Sta F0 F B σ H τ ∧ ∀ v B' H', Ext B H B' H' → a.p B' v → Q v H'
def tN (τ : Tau) (l : List AV) : TE := fun σ H Q => ∃ F0 F B, Sta F0 F B σ H τ ∧ ∀ p xs B' H', Ext B H B' H' → H p = none → B' p = none → H' p = some (.lst xs) → Reps B' xs l → Q (.ref p) H'
def tT (τ : Tau) (b : Bool) : TT := fun σ H Q => ∃ F0 F B, Sta F0 F B σ H τ ∧ ∀ B' H', Ext B H B' H' → Q b H'
def tA (τ : Tau) (as : List AV) : TA := fun σ H Q => ∃ F0 F B, Sta F0 F B σ H τ ∧ ∀ vs B' H', Ext B H B' H' → Reps B' vs as → Q vs H'
/-- the expression e has the abstract value a | is a new list of abstract values | the test is b | the arguments -/
def CE (X : Cx) (e : Expr) (τ : Tau) (a : AV) : Prop := PE X e (tE τ a)
def CN (X : Cx) (e : Expr) (τ : Tau) (l : List AV) : Prop := PE X e (tN τ l)
def CT (X : Cx) (e : Expr) (τ : Tau) (b : Bool) : Prop := PT X e (tT τ b)
def CA (X : Cx) (es : List Expr) (τ : Tau) (as : List AV) : Prop := PA X es (tA τ as)

section
variable {X : Cx} {e e1 e2 e3 : Expr} {τ : Tau} {a b c : AV} {l m : List AV} {t : TE} {pos : Pos}
theorem pe_weak {t' : TE} (h : PE X e t) (k : ∀ σ H Q, t' σ H Q → t σ H Q) : PE X e t' := ⟨fun pins s σ H Q I w => h.run pins s σ H Q I (k σ H Q w)⟩
theorem pt_weak {t t' : TT} (h : PT X e t) (k : ∀ σ H Q, t' σ H Q → t σ H Q) : PT X e t' := ⟨fun pins s σ H Q I w => h.run pins s σ H Q I (k σ H Q w)⟩
theorem pa_weak {es : List Expr} {t t' : TA} (h : PA X es t) (k : ∀ σ H Q, t' σ H Q → t σ H Q) : PA X es t' := ⟨fun pos pins s σ H Q I w => h.run pos pins s σ H Q I (k σ H Q w)⟩
theorem ce_of (h : PE X e t) (k : ∀ F0 F B σ H Q, Sta F0 F B σ H τ → (∀ v B' H', Ext B H B' H' → a.p B' v → Q v H') → t σ H Q) : CE X e τ a :=
  pe_weak h fun σ H Q ⟨F0, F, B, S, q⟩ => k F0 F B σ H Q S q
theorem cn_of (h : PE X e t) (k : ∀ F0 F B σ H Q, Sta F0 F B σ H τ → (∀ p xs B' H', Ext B H B' H' → H p = none → B' p = none → H' p = some (.lst xs) → Reps B' xs l → Q (.ref p) H') → t σ H Q) : CN X e τ l :=
  pe_weak h fun σ H Q ⟨F0, F, B, S, q⟩ => k F0 F B σ H Q S q
theorem ct_of {t : TT} {b : Bool} (h : PT X e t) (k : ∀ F0 F B σ H Q, Sta F0 F B σ H τ → (∀ B' H', Ext B H B' H' → Q b H') → t σ H Q) : CT X e τ b :=
  pt_weak h fun σ H Q ⟨F0, F, B, S, q⟩ => k F0 F B σ H Q S q
theorem ca_of {es : List Expr} {t : TA} {as : List AV} (h : PA X es t) (k : ∀ F0 F B σ H Q, Sta F0 F B σ H τ → (∀ vs B' H', Ext B H B' H' → Reps B' vs as → Q vs H') → t σ H Q) : CA X es τ as :=
  pa_weak h fun σ H Q ⟨F0, F, B, S, q⟩ => k F0 F B σ H Q S q
/-- a new list is a value -/
theorem CN.ce (h : CN X e τ l) : CE X e τ (.lst l) := ce_of h fun F0 F B σ H Q S q => ⟨F0, F, B, S, fun p xs B' H' x h1 h2 h3 h4 =>
  q (.ref p) _ H' (x.fix h1 h2 h3) ⟨p, xs, rfl, upd_same, h4.mono (.new h2)⟩⟩
theorem CE.is (h : CE X e τ a) (q : a = b) : CE X e τ b := q ▸ h
theorem CN.is (h : CN X e τ l) (q : l = m) : CN X e τ m := q ▸ h
theorem CT.is {b c : Bool} (h : CT X e τ b) (q : b = c) : CT X e τ c := q ▸ h

/-! ### names, constants -/
theorem c_var (i : Nat) {x : Str} (hN : X.N[i]? = some x := by rfl) (hv : Vis X.env.scope x := by first | exact Or.inl rfl | exact Or.inr (Or.inl rfl) | exact Or.inr (Or.inr rfl)) (ht : τ[i]? = some (some (.val a)) := by rfl) (hd : (x == ("__debug__" : Str)) = false := by decide) (hcd : (x == ("__classdict__" : Str)) = false := by decide) : CE X (.Name x pos) τ a :=
  ce_of (pe_var hN hv hd hcd) fun F0 F B σ H Q S q => let ⟨v, h1, h2⟩ := S.val i a ht; ⟨v, h1, q v B H (.refl S.gr) h2⟩
theorem ce_c {v : V} (h : PE X e (tC v)) : CE X e τ (.cst v) := ce_of h fun F0 F B σ H Q S q => q v B H (.refl S.gr) rfl
theorem c_int {i : Int} {j : Nat} : CE X (.Constant (.int i) j pos) τ (.int i) := ce_c pe_int
theorem c_bl {b : Bool} {j : Nat} : CE X (.Constant (.bool b) j pos) τ (.bl b) := ce_c pe_bl
theorem c_non {j : Nat} : CE X (.Constant .none j pos) τ .non := ce_c pe_non
theorem c_str {x : Str} {j : Nat} : CE X (.Constant (.str x) j pos) τ (.str x) := ce_c pe_str
theorem c_glob {x : Str} {v : V} {u : Value} (hm : X.mg x = some u) (r : RelV v u) (hg : Gl X x := by rfl) (hd : (x == ("__debug__" : Str)) = false := by decide) : CE X (.Name x pos) τ (.cst v) := ce_c (pe_glob hg hm r hd)
theorem c_bltn {x : Str} {v : V} {u : Value} (hm : X.mg x = none) (hv : bootBuiltins x = some u) (r : RelV v u) (hg : Gl X x := by rfl) (hn : x ≠ "__name__" := by decide) (hd : (x == ("__debug__" : Str)) = false := by decide) : CE X (.Name x pos) τ (.cst v) := ce_c (pe_bltn hg hm hv r hn hd)

/-! ### what takes one value, two values, arguments -/
def R1A (r : V → Hp → VK → Prop) (a c : AV) : Prop := ∀ x B H Q, Gr B H → a.p B x → (∀ v B' H', Ext B H B' H' → c.p B' v → Q v H') → r x H Q
def R2A (r : R2) (a b c : AV) : Prop := ∀ x y B H Q, Gr B H → a.p B x → b.p B y → (∀ v B' H', Ext B H B' H' → c.p B' v → Q v H') → r x y H Q
def R2N (r : R2) (a b : AV) (l : List AV) : Prop := ∀ x y B H Q, Gr B H → a.p B x → b.p B y → (∀ p xs B' H', Ext B H B' H' → H p = none → B' p = none → H' p = some (.lst xs) → Reps B' xs l → Q (.ref p) H') → r x y H Q
def RCA (r : List V → Hp → VK → Prop) (as : List AV) (c : AV) : Prop := ∀ vs B H Q, Gr B H → Reps B vs as → (∀ v B' H', Ext B H B' H' → c.p B' v → Q v H') → r vs H Q
def RCN (r : List V → Hp → VK → Prop) (as : List AV) (l : List AV) : Prop := ∀ vs B H Q, Gr B H → Reps B vs as → (∀ p xs B' H', Ext B H B' H' → H p = none → B' p = none → H' p = some (.lst xs) → Reps B' xs l → Q (.ref p) H') → r vs H Q

theorem ce_op {r : R2} (h : PE X e (tOp r (tE τ a) (tE τ b))) (k : R2A r a b c) : CE X e τ c := ce_of h fun F0 F B σ H Q S q =>
  ⟨F0, F, B, S, fun v B1 H1 x1 h1 => ⟨F0, F, B1, S.step x1, fun w B2 H2 x2 h2 => k v w B2 H2 Q x2.s (a.mono x2.b h1) h2 fun u B3 H3 x3 h3 => q u B3 H3 ((x1.trans x2).trans x3) h3⟩⟩
theorem cn_op {r : R2} (h : PE X e (tOp r (tE τ a) (tE τ b))) (k : R2N r a b l) : CN X e τ l := cn_of h fun F0 F B σ H Q S q =>
  ⟨F0, F, B, S, fun v B1 H1 x1 h1 => ⟨F0, F, B1, S.step x1, fun w B2 H2 x2 h2 => k v w B2 H2 Q x2.s (a.mono x2.b h1) h2 fun p xs B3 H3 x3 n1 n2 n3 n4 => q p xs B3 H3 ((x1.trans x2).trans x3) ((x1.trans x2).h.back n1) n2 n3 n4⟩⟩
theorem ct_test {b : Bool} (h : PT X e (tTest (tE τ (.bl b)))) : CT X e τ b := ct_of h fun F0 F B σ H Q S q =>
  ⟨F0, F, B, S, fun v B1 H1 x1 h1 => ⟨b, h1, q B1 H1 x1⟩⟩
theorem ct_op {r : R2} {d : Bool} (h : PT X e (tTest (tOp r (tE τ a) (tE τ b)))) (k : R2A r a b (.bl d)) : CT X e τ d := ct_of h fun F0 F B σ H Q S q =>
  ⟨F0, F, B, S, fun v B1 H1 x1 h1 => ⟨F0, F, B1, S.step x1, fun w B2 H2 x2 h2 => k v w B2 H2 _ x2.s (a.mono x2.b h1) h2 fun u B3 H3 x3 h3 => ⟨d, h3, q B3 H3 ((x1.trans x2).trans x3)⟩⟩⟩
theorem ce_un {r : V → Hp → VK → Prop} (h : PE X e (tUn r (tE τ a))) (k : R1A r a c) : CE X e τ c := ce_of h fun F0 F B σ H Q S q =>
  ⟨F0, F, B, S, fun v B1 H1 x1 h1 => k v B1 H1 Q x1.s h1 fun u B3 H3 x3 h3 => q u B3 H3 (x1.trans x3) h3⟩

theorem r_int {f : Int → Int → V} {i j : Int} : R2A (rI0 f) (.int i) (.int j) (.cst (f i j)) := fun x y B H Q g hx hy q => ⟨i, j, hx, hy, q _ B H (.refl g) rfl⟩
theorem r_intC {C : Int → Int → Prop} {f : Int → Int → V} {i j : Int} (hc : C i j) : R2A (rI C f) (.int i) (.int j) (.cst (f i j)) := fun x y B H Q g hx hy q => ⟨i, j, hx, hy, hc, q _ B H (.refl g) rfl⟩

/-! ### numbers -/
variable {i j : Int}
theorem c_add (h1 : CE X e1 τ (.int i)) (h2 : CE X e2 τ (.int j)) : CE X (.BinOp e1 .Add e2 pos) τ (.int (i + j)) := ce_op (pe_op op_add h1 h2) r_int
theorem c_sub (h1 : CE X e1 τ (.int i)) (h2 : CE X e2 τ (.int j)) : CE X (.BinOp e1 .Sub e2 pos) τ (.int (i - j)) := ce_op (pe_op op_sub h1 h2) r_int
/-- a product, where the two factors together have fewer than some hundred million bits -/
theorem op_mulB : OpR X (binaryOp .Mult) (rI IntMulOk fun i j => .int (i * j)) := opI fun _ _ _ _ _ _ _ hc q => PyProof.Rows.mul_int q hc
theorem c_mul (h1 : CE X e1 τ (.int i)) (h2 : CE X e2 τ (.int j)) (hm : IntMulOk i j) : CE X (.BinOp e1 .Mult e2 pos) τ (.int (i * j)) := ce_op (pe_op op_mulB h1 h2) (r_intC hm)
theorem c_mod (h1 : CE X e1 τ (.int i)) (h2 : CE X e2 τ (.int j)) (hj : 0 < j) : CE X (.BinOp e1 .Mod e2 pos) τ (.int (i % j)) := ce_op (pe_op op_mod h1 h2) (r_intC (C := fun _ j => 0 < j) hj)
theorem c_fdiv (h1 : CE X e1 τ (.int i)) (h2 : CE X e2 τ (.int j)) (hj : CDivW i j) : CE X (.BinOp e1 .FloorDiv e2 pos) τ (.int (i / j)) := ce_op (pe_op op_fdivW h1 h2) (r_intC hj)
theorem c_pow (h1 : CE X e1 τ (.int i)) (h2 : CE X e2 τ (.int j)) (hj : CPow i j) : CE X (.BinOp e1 .Pow e2 pos) τ (.int (i ^ j.toNat)) := ce_op (pe_op op_pow h1 h2) (r_intC hj)
theorem c_neg (h1 : CE X e1 τ (.int i)) : CE X (.UnaryOp .USub e1 pos) τ (.int (-i)) := ce_un (pe_un un_neg h1) fun x B H Q g hx q => ⟨i, hx, q _ B H (.refl g) rfl⟩

/-! ### comparisons of numbers, as values and as tests -/
theorem r_eq {x y : V} (h : scal x y = true) : R2A rEq (.cst x) (.cst y) (.bl (decide (x = y))) := fun x' y' B H Q g hx hy q => by
  cases hx; cases hy; exact ⟨h, q _ B H (.refl g) rfl⟩
theorem r_ne {x y : V} (h : scal x y = true) : R2A rNe (.cst x) (.cst y) (.bl (!decide (x = y))) := fun x' y' B H Q g hx hy q => by
  cases hx; cases hy; exact ⟨h, q _ B H (.refl g) rfl⟩
theorem V.int_inj {i j : Int} : decide (V.int i = V.int j) = decide (i = j) := by
  by_cases h : i = j
  · subst h; simp
  · rw [decide_eq_false h]; exact decide_eq_false fun q => h (by injection q)
theorem c_lt (h1 : CE X e1 τ (.int i)) (h2 : CE X e2 τ (.int j)) : CE X (.Compare e1 [.Lt] [e2] pos) τ (.bl (decide (i < j))) := ce_op (pe_cmpR op_lt h1 h2 (nomark _)) r_int
theorem c_le (h1 : CE X e1 τ (.int i)) (h2 : CE X e2 τ (.int j)) : CE X (.Compare e1 [.LtE] [e2] pos) τ (.bl (decide (i ≤ j))) := ce_op (pe_cmpR op_le h1 h2 (nomark _)) r_int
theorem c_gt (h1 : CE X e1 τ (.int i)) (h2 : CE X e2 τ (.int j)) : CE X (.Compare e1 [.Gt] [e2] pos) τ (.bl (decide (j < i))) := ce_op (pe_cmpR op_gt h1 h2 (nomark _)) r_int
theorem c_ge (h1 : CE X e1 τ (.int i)) (h2 : CE X e2 τ (.int j)) : CE X (.Compare e1 [.GtE] [e2] pos) τ (.bl (decide (j ≤ i))) := ce_op (pe_cmpR op_ge h1 h2 (nomark _)) r_int
theorem c_eq (h1 : CE X e1 τ (.int i)) (h2 : CE X e2 τ (.int j)) : CE X (.Compare e1 [.Eq] [e2] pos) τ (.bl (decide (i = j))) := (ce_op (pe_cmpR op_eq h1 h2 (nomark _)) (r_eq rfl)).is (by rw [V.int_inj])
theorem c_ne (h1 : CE X e1 τ (.int i)) (h2 : CE X e2 τ (.int j)) : CE X (.Compare e1 [.NotEq] [e2] pos) τ (.bl (!decide (i = j))) := (ce_op (pe_cmpR op_ne h1 h2 (nomark _)) (r_ne rfl)).is (by rw [V.int_inj])
theorem ct_lt (h1 : CE X e1 τ (.int i)) (h2 : CE X e2 τ (.int j)) : CT X (.Compare e1 [.Lt] [e2] pos) τ (decide (i < j)) := ct_op (pt_cmpR op_lt h1 h2 (nomark _)) r_int
theorem ct_le (h1 : CE X e1 τ (.int i)) (h2 : CE X e2 τ (.int j)) : CT X (.Compare e1 [.LtE] [e2] pos) τ (decide (i ≤ j)) := ct_op (pt_cmpR op_le h1 h2 (nomark _)) r_int
theorem ct_gt (h1 : CE X e1 τ (.int i)) (h2 : CE X e2 τ (.int j)) : CT X (.Compare e1 [.Gt] [e2] pos) τ (decide (j < i)) := ct_op (pt_cmpR op_gt h1 h2 (nomark _)) r_int
theorem ct_ge (h1 : CE X e1 τ (.int i)) (h2 : CE X e2 τ (.int j)) : CT X (.Compare e1 [.GtE] [e2] pos) τ (decide (j ≤ i)) := ct_op (pt_cmpR op_ge h1 h2 (nomark _)) r_int
theorem ct_eq (h1 : CE X e1 τ (.int i)) (h2 : CE X e2 τ (.int j)) : CT X (.Compare e1 [.Eq] [e2] pos) τ (decide (i = j)) := (ct_op (pt_cmpR op_eq h1 h2 (nomark _)) (r_eq rfl)).is V.int_inj
theorem ct_ne (h1 : CE X e1 τ (.int i)) (h2 : CE X e2 τ (.int j)) : CT X (.Compare e1 [.NotEq] [e2] pos) τ (!decide (i = j)) := (ct_op (pt_cmpR op_ne h1 h2 (nomark _)) (r_ne rfl)).is (by rw [V.int_inj])

/-! ### and, or, not, if .. else -/
theorem ct_val {b : Bool} (h : CE X e τ (.bl b)) (he : ∀ whole, isTrue e X.env whole = (do let v ← whole; standAt e.pos; holding [v] (truthy v)) := by intro _; rfl) : CT X e τ b := ct_of (pt_val h he) fun F0 F B σ H Q S q =>
  ⟨F0, F, B, S, fun v B1 H1 x1 h1 => ⟨b, h1, q B1 H1 x1⟩⟩
theorem ct_not {b : Bool} (h : CT X e τ b) : CT X (.UnaryOp .Not e pos) τ (!b) := ct_of (pt_not h) fun F0 F B σ H Q S q => ⟨F0, F, B, S, fun B1 H1 x1 => q B1 H1 x1⟩
theorem c_not {b : Bool} (h : CE X e τ (.bl b)) : CE X (.UnaryOp .Not e pos) τ (.bl (!b)) := ce_of (pe_not h) fun F0 F B σ H Q S q => ⟨F0, F, B, S, fun v B1 H1 x1 h1 => ⟨b, h1, q _ B1 H1 x1 rfl⟩⟩
def CW (X : Cx) (e : Expr) (τ : Tau) (b : Bool) : Prop := PW X e (tT τ b)
theorem CW.ct {b : Bool} (h : CW X e τ b) : CT X e τ b := PW.pt h
theorem pw_weak {t t' : TT} (h : PW X e t) (k : ∀ σ H Q, t' σ H Q → t σ H Q) : PW X e t' := ⟨fun wh pins s σ H Q I w => h.run wh pins s σ H Q I (k σ H Q w)⟩
variable {rest : List Expr}
theorem cw_and1 {b : Bool} (h : CT X e τ b) : CW X (.BoolOp .And [e] pos) τ b := pw_and1 h
theorem cw_or1 {b : Bool} (h : CT X e τ b) : CW X (.BoolOp .Or [e] pos) τ b := pw_or1 h
theorem cw_and {b d : Bool} (h1 : CT X e1 τ b) (h2 : b = true → CW X (.BoolOp .And (e2 :: rest) pos) τ d) : CW X (.BoolOp .And (e1 :: e2 :: rest) pos) τ (b && d) := by
  cases b with
  | true => exact pw_weak (pw_and h1 (h2 rfl)) fun σ H Q ⟨F0, F, B, S, q⟩ => ⟨F0, F, B, S, fun B1 H1 x1 => iteT ⟨F0, F, B1, S.step x1, fun B2 H2 x2 => q B2 H2 (x1.trans x2)⟩⟩
  | false => exact pw_weak (pw_and (tB' := fun _ _ _ => False) h1 ⟨fun _ _ _ _ _ _ _ z => z.elim⟩) fun σ H Q ⟨F0, F, B, S, q⟩ => ⟨F0, F, B, S, fun B1 H1 x1 => iteF (q B1 H1 x1)⟩
theorem cw_or {b d : Bool} (h1 : CT X e1 τ b) (h2 : b = false → CW X (.BoolOp .Or (e2 :: rest) pos) τ d) : CW X (.BoolOp .Or (e1 :: e2 :: rest) pos) τ (b || d) := by
  cases b with
  | false => exact pw_weak (pw_or h1 (h2 rfl)) fun σ H Q ⟨F0, F, B, S, q⟩ => ⟨F0, F, B, S, fun B1 H1 x1 => iteF ⟨F0, F, B1, S.step x1, fun B2 H2 x2 => q B2 H2 (x1.trans x2)⟩⟩
  | true => exact pw_weak (pw_or (tB' := fun _ _ _ => False) h1 ⟨fun _ _ _ _ _ _ _ z => z.elim⟩) fun σ H Q ⟨F0, F, B, S, q⟩ => ⟨F0, F, B, S, fun B1 H1 x1 => iteT (q B1 H1 x1)⟩
theorem c_one {op : BoolOp} (h : CE X e τ a) : CE X (.BoolOp op [e] pos) τ a := pe_one h
theorem pe_noway : PE X e (fun _ _ _ => False) := ⟨fun _ _ _ _ _ _ z => z.elim⟩
theorem c_and {b d : Bool} (h1 : CE X e1 τ (.bl b)) (h2 : b = true → CE X (.BoolOp .And (e2 :: rest) pos) τ (.bl d)) : CE X (.BoolOp .And (e1 :: e2 :: rest) pos) τ (.bl (b && d)) := by
  cases b with
  | true => exact ce_of (pe_and h1 (h2 rfl)) fun F0 F B σ H Q S q => ⟨F0, F, B, S, fun v B1 H1 x1 hv => ⟨true, hv, iteT ⟨F0, F, B1, S.step x1, fun w B2 H2 x2 h2 => q w B2 H2 (x1.trans x2) h2⟩⟩⟩
  | false => exact ce_of (pe_and h1 pe_noway) fun F0 F B σ H Q S q => ⟨F0, F, B, S, fun v B1 H1 x1 hv => ⟨false, hv, iteF (q _ B1 H1 x1 rfl)⟩⟩
theorem c_or {b d : Bool} (h1 : CE X e1 τ (.bl b)) (h2 : b = false → CE X (.BoolOp .Or (e2 :: rest) pos) τ (.bl d)) : CE X (.BoolOp .Or (e1 :: e2 :: rest) pos) τ (.bl (b || d)) := by
  cases b with
  | false => exact ce_of (pe_or h1 (h2 rfl)) fun F0 F B σ H Q S q => ⟨F0, F, B, S, fun v B1 H1 x1 hv => ⟨false, hv, iteF ⟨F0, F, B1, S.step x1, fun w B2 H2 x2 h2 => q w B2 H2 (x1.trans x2) h2⟩⟩⟩
  | true => exact ce_of (pe_or h1 pe_noway) fun F0 F B σ H Q S q => ⟨F0, F, B, S, fun v B1 H1 x1 hv => ⟨true, hv, iteT (q _ B1 H1 x1 rfl)⟩⟩
theorem c_if {b : Bool} (h : CT X e1 τ b) (h1 : b = true → CE X e2 τ a) (h2 : b = false → CE X e3 τ a) : CE X (.IfExp e1 e2 e3 pos) τ a := by
  cases b with
  | true => exact ce_of (pe_ifExp h (h1 rfl) pe_noway) fun F0 F B σ H Q S q => ⟨F0, F, B, S, fun B1 H1 x1 => iteT ⟨F0, F, B1, S.step x1, fun w B2 H2 x2 h2 => q w B2 H2 (x1.trans x2) h2⟩⟩
  | false => exact ce_of (pe_ifExp h pe_noway (h2 rfl)) fun F0 F B σ H Q S q => ⟨F0, F, B, S, fun B1 H1 x1 => iteF ⟨F0, F, B1, S.step x1, fun w B2 H2 x2 h2 => q w B2 H2 (x1.trans x2) h2⟩⟩
theorem cn_if {b : Bool} (h : CT X e1 τ b) (h1 : b = true → CN X e2 τ l) (h2 : b = false → CN X e3 τ l) : CN X (.IfExp e1 e2 e3 pos) τ l := by
  cases b with
  | true => exact cn_of (pe_ifExp h (h1 rfl) pe_noway) fun F0 F B σ H Q S q => ⟨F0, F, B, S, fun B1 H1 x1 => iteT ⟨F0, F, B1, S.step x1, fun p xs B2 H2 x2 n1 n2 n3 n4 => q p xs B2 H2 (x1.trans x2) (x1.h.back n1) n2 n3 n4⟩⟩
  | false => exact cn_of (pe_ifExp h pe_noway (h2 rfl)) fun F0 F B σ H Q S q => ⟨F0, F, B, S, fun B1 H1 x1 => iteF ⟨F0, F, B1, S.step x1, fun p xs B2 H2 x2 n1 n2 n3 n4 => q p xs B2 H2 (x1.trans x2) (x1.h.back n1) n2 n3 n4⟩⟩
/-- a op b op' c -/
theorem ct_chain {op op' : CmpOp} {r r' : R2} {b1 b2 : Bool} (ho : OpR X (compareOp op) r) (ho' : OpR X (compareOp op') r') (h1 : CE X e1 τ a) (h2 : CE X e2 τ b) (h3 : CE X e3 τ c) (k1 : R2A r a b (.bl b1)) (k2 : R2A r' b c (.bl b2)) (hm : lastMarks [op, op'] [e2, e3] = false := by with_unfolding_all rfl) : CT X (.Compare e1 [op, op'] [e2, e3] pos) τ (b1 && b2) := ct_of (pt_chain ho ho' h1 h2 h3 hm) fun F0 F B σ H Q S q =>
  ⟨F0, F, B, S, fun v B1 H1 x1 g1 => ⟨F0, F, B1, S.step x1, fun w B2 H2 x2 g2 => k1 v w B2 H2 _ x2.s (a.mono x2.b g1) g2 fun u B3 H3 x3 g3 => ⟨b1, g3, by
    cases b1 with
    | true => exact iteT ⟨F0, F, B3, ((S.step x1).step x2).step x3, fun z B4 H4 x4 g4 => k2 w z B4 H4 _ x4.s (b.mono (x3.b.trans x4.b) g2) g4 fun u B5 H5 x5 g5 => ⟨b2, g5, q B5 H5 ((((x1.trans x2).trans x3).trans x4).trans x5)⟩⟩
    | false => exact iteF ⟨false, rfl, q B3 H3 ((x1.trans x2).trans x3)⟩⟩⟩⟩
theorem c_chain {op op' : CmpOp} {r r' : R2} {b1 b2 : Bool} (ho : OpR X (compareOp op) r) (ho' : OpR X (compareOp op') r') (h1 : CE X e1 τ a) (h2 : CE X e2 τ b) (h3 : CE X e3 τ c) (k1 : R2A r a b (.bl b1)) (k2 : R2A r' b c (.bl b2)) (hm : lastMarks [op, op'] [e2, e3] = false := by with_unfolding_all rfl) : CE X (.Compare e1 [op, op'] [e2, e3] pos) τ (.bl (b1 && b2)) := ce_of (pe_chain ho ho' h1 h2 h3 hm) fun F0 F B σ H Q S q =>
  ⟨F0, F, B, S, fun v B1 H1 x1 g1 => ⟨F0, F, B1, S.step x1, fun w B2 H2 x2 g2 => k1 v w B2 H2 _ x2.s (a.mono x2.b g1) g2 fun u B3 H3 x3 g3 => ⟨b1, g3, by
    cases b1 with
    | true => exact iteT ⟨F0, F, B3, ((S.step x1).step x2).step x3, fun z B4 H4 x4 g4 => k2 w z B4 H4 _ x4.s (b.mono (x3.b.trans x4.b) g2) g4 fun u B5 H5 x5 g5 => q u B5 H5 ((((x1.trans x2).trans x3).trans x4).trans x5) g5⟩
    | false => exact iteF (q _ B3 H3 ((x1.trans x2).trans x3) rfl)⟩⟩⟩
end
end Ab
set_option Elab.async false
set_option linter.all false
set_option maxRecDepth 100000
set_option maxHeartbeats 1000000
namespace Ab
open PySem L2

section
variable {X : Cx} {e e1 e2 e3 : Expr} {es : List Expr} {τ : Tau} {a b c : AV} {l m as : List AV} {pos p p2 : Pos} {i j : Int}
/-! ### arguments, displays -/
theorem ca_nil : CA X [] τ [] := ca_of pa_nil fun F0 F B σ H Q S q => q [] B H (.refl S.gr) .nil
theorem ca_cons (h : CE X e τ a) (hr : CA X es τ as) (hs : starEach (e :: es) X.env = (false, eval e X.env) :: starEach es X.env := by rfl) : CA X (e :: es) τ (a :: as) :=
  ca_of (pa_cons h hr hs) fun F0 F B σ H Q S q => ⟨F0, F, B, S, fun v B1 H1 x1 h1 => ⟨F0, F, B1, S.step x1, fun vs B2 H2 x2 h2 => q (v :: vs) B2 H2 (x1.trans x2) (.cons (a.mono x2.b h1) h2)⟩⟩
theorem cn_lst (h : CA X es τ l) (hz : l.length ≤ 1000000 := by first | decide | (simp; done)) : CN X (.List es pos) τ l := cn_of (pe_lst h) fun F0 F B σ H Q S q =>
  ⟨F0, F, B, S, fun vs B1 H1 x1 h1 => ⟨by rw [h1.length]; exact Nat.le_trans hz (by decide), fun p hp =>
    q p vs B1 _ (x1.trans (.newO x1.s hp)) (x1.h.back hp) (x1.s.back hp) upd_same h1⟩⟩
theorem c_tup {k} (h : CA X es τ l) (hz : l.length ≤ 1000000 := by first | decide | (simp; done)) : CE X (.Tuple es k pos) τ (.tup l) := ce_of (pe_tup h) fun F0 F B σ H Q S q =>
  ⟨F0, F, B, S, fun vs B1 H1 x1 h1 => ⟨by rw [h1.length]; exact Nat.le_trans hz (by decide), fun p hp =>
    q (.ref p) _ _ (x1.trans (.new x1.s hp)) ⟨p, vs, rfl, upd_same, h1.mono (.new (x1.s.back hp))⟩⟩⟩

/-! ### calls of defs -/
/-- a def's promise over abstract values: R tells the result of the arguments -/
def spA (R : List AV → AV → Prop) : Sp := fun vs H Q _ => ∃ as a B, R as a ∧ Gr B H ∧ Reps B vs as ∧ ∀ v B' H', Ext B H B' H' → a.p B' v → Q v H'
/-- .. that gives a new list -/
def spN (R : List AV → List AV → Prop) : Sp := fun vs H Q _ => ∃ as l B, R as l ∧ Gr B H ∧ Reps B vs as ∧ ∀ p xs B' H', Ext B H B' H' → H p = none → B' p = none → H' p = some (.lst xs) → Reps B' xs l → Q (.ref p) H'
/-- the module's name x is a def that keeps sp, by level k -/
structure Has (P : Program) (w : World) (K : PySem.W.Frag) (mg : Str → Option Value) (base : Heap) (x : Str) (k : Nat) (sp : Sp) : Prop where
  ex : ∃ f fd ps, FnOk P w K mg base CX0 k f fd ps sp ∧ mg x = some (.ref f) ∧ PySem.W.keepIn K (.ref f) = true ∧ Binds K fd ps []
theorem c_call {x : Str} {k : Nat} {R : List AV → AV → Prop} (F : Has X.prog X.w X.K X.mg X.base x k (spA R)) (hr : Room k X.A) (ha : CA X (e :: es) τ as) (hR : R as a)
    (hg : Gl X x := by rfl) (hdb : (x == ("__debug__" : Str)) = false := by decide) (he : starEach (e :: es) X.env = (false, eval e X.env) :: starEach es X.env := by rfl) (hpl : (backTo pos (starEach es X.env)).any (·.1) = false := by rfl) : CE X (.Call (.Name x p) (e :: es) [] pos) τ a := by
  obtain ⟨f, fd, ps, G, hm, kp, hb⟩ := F.ex
  refine ce_of (pe_call G hr hg hm kp hb .nil pass0 ha hdb he hpl) fun F0 F B σ H Q S q => ⟨F0, F, B, S, fun vs B1 H1 x1 h1 => ?_⟩
  refine ⟨as, a, B1, hR, x1.s, by rw [List.append_nil]; exact h1, fun v B2 H2 x2 h2 => q v B2 H2 (x1.trans x2) h2⟩
theorem cn_call {x : Str} {k : Nat} {R : List AV → List AV → Prop} (F : Has X.prog X.w X.K X.mg X.base x k (spN R)) (hr : Room k X.A) (ha : CA X (e :: es) τ as) (hR : R as l)
    (hg : Gl X x := by rfl) (hdb : (x == ("__debug__" : Str)) = false := by decide) (he : starEach (e :: es) X.env = (false, eval e X.env) :: starEach es X.env := by rfl) (hpl : (backTo pos (starEach es X.env)).any (·.1) = false := by rfl) : CN X (.Call (.Name x p) (e :: es) [] pos) τ l := by
  obtain ⟨f, fd, ps, G, hm, kp, hb⟩ := F.ex
  refine cn_of (pe_call G hr hg hm kp hb .nil pass0 ha hdb he hpl) fun F0 F B σ H Q S q => ⟨F0, F, B, S, fun vs B1 H1 x1 h1 => ?_⟩
  refine ⟨as, l, B1, hR, x1.s, by rw [List.append_nil]; exact h1, fun v xs B2 H2 x2 n1 n2 n3 n4 => q v xs B2 H2 (x1.trans x2) (x1.h.back n1) n2 n3 n4⟩
theorem c_call0 {x : Str} {k : Nat} {R : List AV → AV → Prop} (F : Has X.prog X.w X.K X.mg X.base x k (spA R)) (hr : Room k X.A) (hR : R [] a)
    (hg : Gl X x := by rfl) (hdb : (x == ("__debug__" : Str)) = false := by decide) : CE X (.Call (.Name x p) [] [] pos) τ a := by
  obtain ⟨f, fd, ps, G, hm, kp, hb⟩ := F.ex
  refine ce_of (pe_call0 G hr hg hm kp hb .nil pass0 hdb) fun F0 F B σ H Q S q => ?_
  exact ⟨[], a, B, hR, S.gr, .nil, fun v B2 H2 x2 h2 => q v B2 H2 x2 h2⟩

/-! ### calls of built-ins -/
theorem c_blt {id : String} {x : Str} {r : List V → Hp → VK → Prop} (hc : CallR X (.builtin id) r) (hm : X.mg x = none) (hv : bootBuiltins x = some (.builtin id)) (ha : CA X (e :: es) τ as) (hR : RCA r as a)
    (hn : x ≠ "__name__" := by decide) (hg : Gl X x := by rfl) (hdb : (x == ("__debug__" : Str)) = false := by decide) (he : starEach (e :: es) X.env = (false, eval e X.env) :: starEach es X.env := by rfl) (hpl : (backTo pos (starEach es X.env)).any (·.1) = false := by rfl) : CE X (.Call (.Name x p) (e :: es) [] pos) τ a :=
  ce_of (pe_callB hc hg hm hv ha hn hdb he hpl) fun F0 F B σ H Q S q => ⟨F0, F, B, S, fun vs B1 H1 x1 h1 => hR vs B1 H1 Q x1.s h1 fun v B2 H2 x2 h2 => q v B2 H2 (x1.trans x2) h2⟩
theorem c_typ {T : String} {x : Str} {r : List V → Hp → VK → Prop} (hc : CallR X (.type T) r) (hm : X.mg x = none) (hv : bootBuiltins x = some (.type T)) (ha : CA X (e :: es) τ as) (hR : RCA r as a)
    (hn : x ≠ "__name__" := by decide) (hg : Gl X x := by rfl) (hdb : (x == ("__debug__" : Str)) = false := by decide) (he : starEach (e :: es) X.env = (false, eval e X.env) :: starEach es X.env := by rfl) (hpl : (backTo pos (starEach es X.env)).any (·.1) = false := by rfl) : CE X (.Call (.Name x p) (e :: es) [] pos) τ a :=
  ce_of (pe_callTy hc hg hm hv ha hn hdb he hpl) fun F0 F B σ H Q S q => ⟨F0, F, B, S, fun vs B1 H1 x1 h1 => hR vs B1 H1 Q x1.s h1 fun v B2 H2 x2 h2 => q v B2 H2 (x1.trans x2) h2⟩
theorem cn_typ {T : String} {x : Str} {r : List V → Hp → VK → Prop} (hc : CallR X (.type T) r) (hm : X.mg x = none) (hv : bootBuiltins x = some (.type T)) (ha : CA X (e :: es) τ as) (hR : RCN r as l)
    (hn : x ≠ "__name__" := by decide) (hg : Gl X x := by rfl) (hdb : (x == ("__debug__" : Str)) = false := by decide) (he : starEach (e :: es) X.env = (false, eval e X.env) :: starEach es X.env := by rfl) (hpl : (backTo pos (starEach es X.env)).any (·.1) = false := by rfl) : CN X (.Call (.Name x p) (e :: es) [] pos) τ l :=
  cn_of (pe_callTy hc hg hm hv ha hn hdb he hpl) fun F0 F B σ H Q S q => ⟨F0, F, B, S, fun vs B1 H1 x1 h1 => hR vs B1 H1 Q x1.s h1 fun v xs B2 H2 x2 n1 n2 n3 n4 => q v xs B2 H2 (x1.trans x2) (x1.h.back n1) n2 n3 n4⟩

theorem reps1 {B : Hp} {vs : List V} {a : AV} (h : Reps B vs [a]) : ∃ v, vs = [v] ∧ a.p B v := by
  cases h with
  | cons h t => cases t; exact ⟨_, rfl, h⟩
theorem reps2 {B : Hp} {vs : List V} {a b : AV} (h : Reps B vs [a, b]) : ∃ v w, vs = [v, w] ∧ a.p B v ∧ b.p B w := by
  cases h with
  | cons h t =>
    cases t with
    | cons h' t => cases t; exact ⟨_, _, rfl, h, h'⟩
/-- len -/
theorem r_len {K : PySem.W.Frag} : RCA (fun xs H Q => ∃ p ys, xs = [.ref p] ∧ (SqL K H p ys ∨ SqT K H p ys) ∧ Q (.int ys.length) H) [.lst l] (.int l.length) := fun vs B H Q g h q => by
  obtain ⟨v, rfl, a, xs, rfl, h1, h2⟩ := reps1 h
  exact ⟨a, xs, rfl, .inl (SqL.of (g _ _ h1)), q _ B H (.refl g) (by rw [h2.length]; rfl)⟩
theorem r_lenT {K : PySem.W.Frag} : RCA (fun xs H Q => ∃ p ys, xs = [.ref p] ∧ (SqL K H p ys ∨ SqT K H p ys) ∧ Q (.int ys.length) H) [.tup l] (.int l.length) := fun vs B H Q g h q => by
  obtain ⟨v, rfl, a, xs, rfl, h1, h2⟩ := reps1 h
  exact ⟨a, xs, rfl, .inr (SqT.of (g _ _ h1)), q _ B H (.refl g) (by rw [h2.length]; rfl)⟩
theorem r_lenR {K : PySem.W.Frag} : RCA (fun xs H Q => ∃ p ys, xs = [.ref p] ∧ (SqL K H p ys ∨ SqT K H p ys) ∧ Q (.int ys.length) H) [.rdo K l] (.int l.length) := fun vs B H Q g h q => by
  obtain ⟨v, rfl, a, xs, rfl, h1, h2⟩ := reps1 h
  exact ⟨a, xs, rfl, .inl (g.sq h1), q _ B H (.refl g) (by rw [h2.length]; rfl)⟩
theorem r_sum {K : PySem.W.Frag} {ns : List Int} : RCA (rSum K) [.il ns] (.int ns.sum) := fun vs B H Q g h q => by
  obtain ⟨v, rfl, a, xs, rfl, h1, h2⟩ := reps1 h
  rw [reps_ints h2] at h1
  exact ⟨a, ns, rfl, SqL.of (g _ _ h1), q _ B H (.refl g) rfl⟩
theorem r_sumR {K : PySem.W.Frag} {ns : List Int} : RCA (rSum K) [.rdo K (ns.map AV.int)] (.int ns.sum) := fun vs B H Q g h q => by
  obtain ⟨v, rfl, a, xs, rfl, h1, h2⟩ := reps1 h
  rw [reps_ints h2] at h1
  exact ⟨a, ns, rfl, g.sq h1, q _ B H (.refl g) rfl⟩
theorem r_all {K : PySem.W.Frag} {bs : List Bool} : RCA (rAll K) [.lst (bs.map AV.bl)] (.bl (bs.all id)) := fun vs B H Q g h q => by
  obtain ⟨v, rfl, a, xs, rfl, h1, h2⟩ := reps1 h
  rw [reps_bls h2] at h1
  exact ⟨a, bs, rfl, SqL.of (g _ _ h1), q _ B H (.refl g) rfl⟩
/-- the least, the greatest of numbers -/
def minI (ns : List Int) : Int := ns.min?.getD 0
def maxI (ns : List Int) : Int := ns.max?.getD 0
theorem minI_is {ns : List Int} {k : Int} (h1 : k ∈ ns) (h2 : ∀ y ∈ ns, k ≤ y) : minI ns = k := by
  have := (List.min?_eq_some_iff (xs := ns) (a := k)).mpr ⟨h1, h2⟩
  unfold minI; rw [this]; rfl
theorem maxI_is {ns : List Int} {k : Int} (h1 : k ∈ ns) (h2 : ∀ y ∈ ns, y ≤ k) : maxI ns = k := by
  have := (List.max?_eq_some_iff (xs := ns) (a := k)).mpr ⟨h1, h2⟩
  unfold maxI; rw [this]; rfl
theorem minI_ex {ns : List Int} (h : ns ≠ []) : minI ns ∈ ns ∧ ∀ y ∈ ns, minI ns ≤ y := by
  cases q : ns.min? with
  | none => exact absurd (List.min?_eq_none_iff.mp q) h
  | some k =>
    have := List.min?_eq_some_iff.mp q
    unfold minI; rw [q]; exact this
theorem maxI_ex {ns : List Int} (h : ns ≠ []) : maxI ns ∈ ns ∧ ∀ y ∈ ns, y ≤ maxI ns := by
  cases q : ns.max? with
  | none => exact absurd (List.max?_eq_none_iff.mp q) h
  | some k =>
    have := List.max?_eq_some_iff.mp q
    unfold maxI; rw [q]; exact this
theorem r_min {K : PySem.W.Frag} {ns : List Int} (hn : ns ≠ []) : RCA (rMin K) [.il ns] (.int (minI ns)) := fun vs B H Q g h q => by
  obtain ⟨v, rfl, a, xs, rfl, h1, h2⟩ := reps1 h
  rw [reps_ints h2] at h1
  exact ⟨a, ns, rfl, SqL.of (g _ _ h1), List.length_pos_iff.mpr hn, fun k k1 k2 => q _ B H (.refl g) (by rw [minI_is k1 k2]; rfl)⟩
theorem r_max {K : PySem.W.Frag} {ns : List Int} (hn : ns ≠ []) : RCA (rMax K) [.il ns] (.int (maxI ns)) := fun vs B H Q g h q => by
  obtain ⟨v, rfl, a, xs, rfl, h1, h2⟩ := reps1 h
  rw [reps_ints h2] at h1
  exact ⟨a, ns, rfl, SqL.of (g _ _ h1), List.length_pos_iff.mpr hn, fun k k1 k2 => q _ B H (.refl g) (by rw [maxI_is k1 k2]; rfl)⟩
theorem r_list {K : PySem.W.Frag} : RCN (fun xs H Q => ∃ p ys, xs = [.ref p] ∧ (SqL K H p ys ∨ SqT K H p ys) ∧ ∀ l, H l = none → Q (.ref l) (upd H l (.lst ys))) [.lst l] l := fun vs B H Q g h q => by
  obtain ⟨v, rfl, a, xs, rfl, h1, h2⟩ := reps1 h
  exact ⟨a, xs, rfl, .inl (SqL.of (g _ _ h1)), fun z hz => q z xs B _ (.newO g hz) hz (g.back hz) upd_same h2⟩
theorem r_abs : RCA (fun xs H Q => ∃ i, xs = [.int i] ∧ Q (.int (if i < 0 then -i else i)) H) [.int i] (.int (if i < 0 then -i else i)) := fun vs B H Q g h q => by
  obtain ⟨v, rfl, h1⟩ := reps1 h
  cases h1
  exact ⟨i, rfl, q _ B H (.refl g) rfl⟩

/-! ### places and parts -/
theorem r_ix {K : PySem.W.Frag} (h : atI l i = some a) : R2A (rIxL K) (.lst l) (.int i) a := fun x y B H Q g hx hy q => by
  obtain ⟨p, xs, rfl, h1, h2⟩ := hx
  cases hy
  unfold atI at h
  cases hj : ixN l.length i with
  | none => rw [hj] at h; cases h
  | some k =>
    rw [hj] at h
    obtain ⟨v, g1, g2⟩ := h2.get h
    refine ⟨p, xs, i, v, rfl, rfl, SqL.of (g _ _ h1), ?_, q v B H (.refl g) g2⟩
    unfold atI
    rw [h2.length, hj]
    exact g1
theorem r_ixT {K : PySem.W.Frag} (h : atI l i = some a) : R2A (rIxT K) (.tup l) (.int i) a := fun x y B H Q g hx hy q => by
  obtain ⟨p, xs, rfl, h1, h2⟩ := hx
  cases hy
  unfold atI at h
  cases hj : ixN l.length i with
  | none => rw [hj] at h; cases h
  | some k =>
    rw [hj] at h
    obtain ⟨v, g1, g2⟩ := h2.get h
    refine ⟨p, xs, i, v, rfl, rfl, SqT.of (g _ _ h1), ?_, q v B H (.refl g) g2⟩
    unfold atI
    rw [h2.length, hj]
    exact g1
theorem c_ix (h1 : CE X e1 τ (.lst l)) (h2 : CE X e2 τ (.int i)) (h : atI l i = some a) (hs : PlainIx e2 := by exact fun _ _ => rfl) : CE X (.Subscript e1 e2 pos) τ a := ce_op (pe_ix ix_list h1 h2 hs) (r_ix h)
theorem c_ixT (h1 : CE X e1 τ (.tup l)) (h2 : CE X e2 τ (.int i)) (h : atI l i = some a) (hs : PlainIx e2 := by exact fun _ _ => rfl) : CE X (.Subscript e1 e2 pos) τ a := ce_op (pe_ix ix_tup h1 h2 hs) (r_ixT h)
/-- a part of a list -/
def cut {α : Type} (xs : List α) (lo hi : Option Int) : List α := (xs.drop (HT.sIx xs.length 0 lo)).take (HT.sIx xs.length xs.length hi - HT.sIx xs.length 0 lo)
theorem cut_map {α β : Type} (f : α → β) (xs : List α) (lo hi : Option Int) : cut (xs.map f) lo hi = (cut xs lo hi).map f := by
  unfold cut; rw [List.length_map, List.map_take, List.map_drop]
theorem cut_from {α : Type} (xs : List α) (k : Nat) : cut xs (some (k : Int)) none = xs.drop k := by
  unfold cut
  rw [HT.sIx_nat, HT.sIx_none]
  by_cases h : k ≤ xs.length
  · rw [Nat.min_eq_left h, List.take_of_length_le (by rw [List.length_drop]; omega)]
  · rw [Nat.min_eq_right (by omega), List.drop_eq_nil_of_le (Nat.le_refl _), List.drop_eq_nil_of_le (by omega), List.take_nil]
theorem cut_to {α : Type} (xs : List α) (k : Nat) : cut xs none (some (k : Int)) = xs.take k := by
  unfold cut
  rw [HT.sIx_nat, HT.sIx_none, List.drop_zero, Nat.sub_zero]
  by_cases h : k ≤ xs.length
  · rw [Nat.min_eq_left h]
  · rw [Nat.min_eq_right (by omega), List.take_of_length_le (Nat.le_refl _), List.take_of_length_le (by omega)]
def CO (X : Cx) (e : Option Expr) (τ : Tau) (o : Option Int) : Prop := PO X e fun σ H Q => ∃ F0 F B, Sta F0 F B σ H τ ∧ ∀ B' H', Ext B H B' H' → Q o H'
theorem po_weak {e : Option Expr} {t t' : TO} (h : PO X e t) (k : ∀ σ H Q, t' σ H Q → t σ H Q) : PO X e t' := ⟨fun pins s σ H Q I w => h.run pins s σ H Q I (k σ H Q w)⟩
theorem co_none : CO X none τ none := po_weak po_none fun σ H Q ⟨F0, F, B, S, q⟩ => q B H (.refl S.gr)
theorem co_some (h : CE X e τ (.int i)) : CO X (some e) τ (some i) := po_weak (po_some h) fun σ H Q ⟨F0, F, B, S, q⟩ => ⟨F0, F, B, S, fun v B1 H1 x1 h1 => ⟨i, h1, q B1 H1 x1⟩⟩
theorem cn_slice {lo hi : Option Expr} {o u : Option Int} (h : CE X e τ (.lst l)) (h1 : CO X lo τ o) (h2 : CO X hi τ u) : CN X (.Subscript e (.Slice lo hi none p2) pos) τ (cut l o u) :=
  cn_of (pe_slice sl_list h h1 h2) fun F0 F B σ H Q S q => ⟨F0, F, B, S, fun v B1 H1 x1 g1 => ⟨F0, F, B1, S.step x1, fun B2 H2 x2 => ⟨F0, F, B2, (S.step x1).step x2, fun B3 H3 x3 => by
    obtain ⟨a, xs, rfl, k1, k2⟩ := (AV.lst l).mono (x2.b.trans x3.b) g1
    have xx := (x1.trans x2).trans x3
    refine ⟨a, xs, rfl, SqL.of (x3.s _ _ k1), fun p hp => q p _ B3 _ (xx.trans (.newO x3.s hp)) (xx.h.back hp) (x3.s.back hp) upd_same ?_⟩
    unfold cut cutV
    rw [k2.length]
    exact (k2.drop _).take _⟩⟩⟩
theorem cn_sliceR {lo hi : Option Expr} {o u : Option Int} (h : CE X e τ (.rdo X.K l)) (h1 : CO X lo τ o) (h2 : CO X hi τ u) : CN X (.Subscript e (.Slice lo hi none p2) pos) τ (cut l o u) :=
  cn_of (pe_slice sl_list h h1 h2) fun F0 F B σ H Q S q => ⟨F0, F, B, S, fun v B1 H1 x1 g1 => ⟨F0, F, B1, S.step x1, fun B2 H2 x2 => ⟨F0, F, B2, (S.step x1).step x2, fun B3 H3 x3 => by
    obtain ⟨a, xs, rfl, k1, k2⟩ := (AV.rdo X.K l).mono (x2.b.trans x3.b) g1
    have xx := (x1.trans x2).trans x3
    refine ⟨a, xs, rfl, x3.s.sq k1, fun p hp => q p _ B3 _ (xx.trans (.newO x3.s hp)) (xx.h.back hp) (x3.s.back hp) upd_same ?_⟩
    unfold cut cutV
    rw [k2.length]
    exact (k2.drop _).take _⟩⟩⟩
theorem cn_rev {k : Nat} {p1 p3 : Pos} (h : CE X e τ (.lst l)) : CN X (.Subscript e (.Slice none none (some (.UnaryOp .USub (.Constant (.int 1) k p1) p2)) p3) pos) τ l.reverse :=
  cn_of (pe_revL h) fun F0 F B σ H Q S q => ⟨F0, F, B, S, fun v B1 H1 x1 g1 => by
    obtain ⟨a, xs, rfl, k1, k2⟩ := g1
    exact ⟨a, xs, rfl, SqL.of (x1.s _ _ k1), fun p hp => q p _ B1 _ (x1.trans (.newO x1.s hp)) (x1.h.back hp) (x1.s.back hp) upd_same k2.reverse⟩⟩
theorem cn_revR {k : Nat} {p1 p3 : Pos} (h : CE X e τ (.rdo X.K l)) : CN X (.Subscript e (.Slice none none (some (.UnaryOp .USub (.Constant (.int 1) k p1) p2)) p3) pos) τ l.reverse :=
  cn_of (pe_revL h) fun F0 F B σ H Q S q => ⟨F0, F, B, S, fun v B1 H1 x1 g1 => by
    obtain ⟨a, xs, rfl, k1, k2⟩ := g1
    exact ⟨a, xs, rfl, x1.s.sq k1, fun p hp => q p _ B1 _ (x1.trans (.newO x1.s hp)) (x1.h.back hp) (x1.s.back hp) upd_same k2.reverse⟩⟩
theorem cn_cat (h1 : CE X e1 τ (.lst l)) (h2 : CE X e2 τ (.lst m)) (hz : l.length + m.length ≤ 1000000) : CN X (.BinOp e1 .Add e2 pos) τ (l ++ m) := cn_op (pe_op op_cat h1 h2) fun x y B H Q g hx hy q => by
  obtain ⟨a, xs, rfl, k1, k2⟩ := hx
  obtain ⟨b, ys, rfl, g1, g2⟩ := hy
  exact ⟨a, b, xs, ys, rfl, rfl, g _ _ k1, g _ _ g1, by rw [k2.length, g2.length]; exact Nat.le_trans hz (by decide), fun p hp => q p _ B _ (.newO g hp) hp (g.back hp) upd_same (k2.append g2)⟩
/-- a list again and again -/
def rep {α : Type} (l : List α) (k : Int) : List α := (List.replicate k.toNat l).flatten
theorem Reps.flat {B : Hp} {xs : List V} (h : Reps B xs l) : ∀ n : Nat, Reps B (List.replicate n xs).flatten (List.replicate n l).flatten
  | 0 => .nil
  | n + 1 => by
    rw [List.replicate_succ, List.replicate_succ, List.flatten_cons, List.flatten_cons]
    exact h.append (Reps.flat h n)
theorem cn_rep (h1 : CE X e1 τ (.lst l)) (h2 : CE X e2 τ (.int i)) (hi : -1000000 ≤ i ∧ i ≤ 1000000) (hz : l.length * i.toNat ≤ 1000000) : CN X (.BinOp e1 .Mult e2 pos) τ (rep l i) := cn_op (pe_op op_rep h1 h2) fun x y B H Q g hx hy q => by
  obtain ⟨a, xs, rfl, k1, k2⟩ := hx
  cases hy
  exact ⟨a, i, xs, rfl, rfl, g _ _ k1, by omega, by omega, by rw [k2.length]; exact Nat.le_trans hz (by decide), fun p hp => q p _ B _ (.newO g hp) hp (g.back hp) upd_same (k2.flat _)⟩
end
end Ab
set_option Elab.async false
set_option linter.all false
set_option maxRecDepth 100000
set_option maxHeartbeats 1000000
namespace Ab
open PySem L2

/-! ### statements -/
structure AE where
  nx : Tau → Prop := fun _ => False
  rt : AV → Prop := fun _ => False
  rn : Shp × List (List AV) → Prop := fun _ => False
  bk : Tau → Prop := fun _ => False
  ct : Tau → Prop := fun _ => False
structure Links (F0 F B0 : Hp) (N : AE) (D : Ends) : Prop where
  nx : ∀ τ B σ H, N.nx τ → Gr B0 B → Sta F0 F B σ H τ → D.nx σ H
  rt : ∀ a v B H, N.rt a → Ext F0 F B H → a.p B v → D.rt v H
  rn : ∀ sh ls v fp B H, N.rn (sh, ls) → Ext F0 F B H → OwnAt F B H v sh ls fp → D.rt v H
  bk : ∀ τ B σ H, N.bk τ → Gr B0 B → Sta F0 F B σ H τ → D.bk σ H
  ct : ∀ τ B σ H, N.ct τ → Gr B0 B → Sta F0 F B σ H τ → D.ct σ H
theorem Links.mono {F0 F B B' : Hp} {N : AE} {D : Ends} (L : Links F0 F B N D) (g : Gr B B') : Links F0 F B' N D :=
  ⟨fun τ B2 σ H n g2 S => L.nx τ B2 σ H n (g.trans g2) S, L.rt, L.rn, fun τ B2 σ H n g2 S => L.bk τ B2 σ H n (g.trans g2) S, fun τ B2 σ H n g2 S => L.ct τ B2 σ H n (g.trans g2) S⟩
def tS (τ : Tau) (N : AE) : TS := fun D σ H => ∃ F0 F B, Sta F0 F B σ H τ ∧ Links F0 F B N D
def CS (X : Cx) (st : Stmt) (τ : Tau) (N : AE) : Prop := PS X st (tS τ N)
def CSs (X : Cx) (sts : List Stmt) (τ : Tau) (N : AE) : Prop := PSs X sts (tS τ N)
section
variable {X : Cx} {st : Stmt} {sts rest : List Stmt} {e e1 e2 : Expr} {es : List Expr} {τ τ1 : Tau} {N : AE} {a b : AV} {l m : List AV} {pos p p2 : Pos}
theorem ps_weak {t t' : TS} (h : PS X st t) (k : ∀ D σ H, t' D σ H → t D σ H) : PS X st t' := ⟨fun pins s σ H D I w => h.run pins s σ H D I (k D σ H w)⟩
theorem pss_weak {t t' : TS} (h : PSs X sts t) (k : ∀ D σ H, t' D σ H → t D σ H) : PSs X sts t' := ⟨fun pins s σ H D I w => h.run pins s σ H D I (k D σ H w)⟩
theorem cs_of {t : TS} (h : PS X st t) (k : ∀ F0 F B D σ H, Sta F0 F B σ H τ → Links F0 F B N D → t D σ H) : CS X st τ N := ps_weak h fun D σ H ⟨F0, F, B, S, L⟩ => k F0 F B D σ H S L
theorem css_of {t : TS} (h : PSs X sts t) (k : ∀ F0 F B D σ H, Sta F0 F B σ H τ → Links F0 F B N D → t D σ H) : CSs X sts τ N := pss_weak h fun D σ H ⟨F0, F, B, S, L⟩ => k F0 F B D σ H S L
/-- every one of many readings holds: so does their sum -/
theorem pss_any {ι : Type} {t : ι → TS} (h : ∀ i, PSs X sts (t i)) : PSs X sts (fun D σ H => ∃ i, t i D σ H) := ⟨fun pins s σ H D I ⟨i, w⟩ => (h i).run pins s σ H D I w⟩
theorem pe_any {ι : Type} {t : ι → TE} (h : ∀ i, PE X e (t i)) : PE X e (fun σ H Q => ∃ i, t i σ H Q) := ⟨fun pins s σ H D I ⟨i, w⟩ => (h i).run pins s σ H D I w⟩
theorem css_nil (h : N.nx τ) : CSs X [] τ N := css_of pss_nil fun F0 F B D σ H S L => L.nx τ B σ H h (.refl _) S
theorem css_one (h : CS X st τ N) : CSs X [st] τ N := pss_one h
/-- a statement, then the rest: M, what may be said between them -/
theorem css_cut (M : Tau → Prop) (h1 : CS X st τ { N with nx := M }) (h2 : ∀ τ', M τ' → CSs X rest τ' N) : CSs X (st :: rest) τ N := by
  refine css_of (pss_cons h1 (pss_any (ι := { τ' : Tau // M τ' }) (t := fun i => tS i.1 N) fun i => h2 i.1 i.2)) fun F0 F B D σ H S L => ?_
  exact ⟨F0, F, B, S, ⟨fun τ' B' σ' H' hm g S' => ⟨⟨τ', hm⟩, F0, F, B', S', L.mono g⟩, L.rt, L.rn, L.bk, L.ct⟩⟩
theorem css_seq (h1 : CS X st τ { N with nx := fun τ' => τ' = τ1 }) (h2 : CSs X rest τ1 N) : CSs X (st :: rest) τ N := css_cut _ h1 fun τ' e => e ▸ h2
theorem AE.le_css {N' : AE} (h : CSs X sts τ N) (k : ∀ F0 F B D, Links F0 F B N' D → Links F0 F B N D) : CSs X sts τ N' := css_of h fun F0 F B D σ H S L => ⟨F0, F, B, S, k F0 F B D L⟩

theorem cs_pass (h : N.nx τ) : CS X (.Pass pos) τ N := cs_of ps_pass fun F0 F B D σ H S L => L.nx τ B σ H h (.refl _) S
theorem cs_ret (h : CE X e τ a) (k : N.rt a) : CS X (.Return (some e) pos) τ N := cs_of (ps_ret h) fun F0 F B D σ H S L => ⟨F0, F, B, S, fun v B' H' x hv => L.rt a v B' H' k (S.ext.trans x) hv⟩
theorem cs_retN (h : CN X e τ l) (k : N.rn (.bare, [l])) : CS X (.Return (some e) pos) τ N := cs_of (ps_ret h) fun F0 F B D σ H S L => ⟨F0, F, B, S, fun p xs B' H' x n1 n2 n3 n4 => L.rn .bare [l] (.ref p) [p] B' H' k (S.ext.trans x) (ownAt_new (S.ext.h.back n1) n2 n3 n4)⟩
/-- return x, x a slot's own -/
theorem cs_retW (i : Nat) {x : Str} {p' : Pos} {sh : Shp} {ls : List (List AV)} (k : N.rn (sh, ls)) (hN : X.N[i]? = some x := by rfl) (hv : Vis X.env.scope x := by first | exact Or.inl rfl | exact Or.inr (Or.inl rfl) | exact Or.inr (Or.inr rfl)) (ht : τ[i]? = some (some (.ow sh ls)) := by rfl) (hd : (x == ("__debug__" : Str)) = false := by decide) (hcd : (x == ("__classdict__" : Str)) = false := by decide) : CS X (.Return (some (.Name x p')) pos) τ N :=
  cs_of (ps_ret (pe_var hN hv hd hcd)) fun F0 F B D σ H S L => by
    obtain ⟨fp, h1, _⟩ := S.ow
    obtain ⟨v, k1, k2⟩ := h1 i sh ls ht
    exact ⟨v, k1, L.rn sh ls v (fp i) B H k S.ext k2⟩
theorem cs_retO (i : Nat) {x : Str} {p' : Pos} (k : N.rn (.bare, [l])) (hN : X.N[i]? = some x := by rfl) (hv : Vis X.env.scope x := by first | exact Or.inl rfl | exact Or.inr (Or.inl rfl) | exact Or.inr (Or.inr rfl)) (ht : τ[i]? = some (some (.own l)) := by rfl) (hd : (x == ("__debug__" : Str)) = false := by decide) (hcd : (x == ("__classdict__" : Str)) = false := by decide) : CS X (.Return (some (.Name x p')) pos) τ N :=
  cs_retW i k hN hv ht hd hcd
theorem cs_expr (h : CE X e τ a) (k : N.nx τ) (hs : swapsWith e none pos.line X.env = pure false := by rfl) : CS X (.Expr e pos) τ N := cs_of (ps_expr h hs) fun F0 F B D σ H S L => ⟨F0, F, B, S, fun v B' H' x _ => L.nx τ B' σ H' k x.b (S.step x)⟩
theorem cs_set (i : Nat) {x : Str} {p' : Pos} (hN : X.N.Nodup) (h : CE X e τ a) (k : N.nx (τ.set i (some (.val a)))) (hi : X.N[i]? = some x := by rfl) (hx : Loc X.env.scope x := by first | exact Or.inl rfl | exact Or.inr rfl) (hs : swapsWith e (some (.Name x p')) pos.line X.env = pure false := by rfl)
    (hf : X.fn x = true ∨ X.env.scope.names.lookup x = some .local := by first | exact .inl rfl | exact .inr rfl) : CS X (.Assign [.Name x p'] e pos) τ N :=
  cs_of (ps_set hN hi hx h hs hf) fun F0 F B D σ H S L => ⟨F0, F, B, S, fun v B' H' x hv => L.nx _ B' _ H' k x.b ((S.step x).set hv)⟩
theorem cs_setO (i : Nat) {x : Str} {p' : Pos} (hN : X.N.Nodup) (h : CN X e τ l) (k : N.nx (τ.set i (some (.own l)))) (hi : X.N[i]? = some x := by rfl) (hx : Loc X.env.scope x := by first | exact Or.inl rfl | exact Or.inr rfl) (hs : swapsWith e (some (.Name x p')) pos.line X.env = pure false := by rfl)
    (hf : X.fn x = true ∨ X.env.scope.names.lookup x = some .local := by first | exact .inl rfl | exact .inr rfl) : CS X (.Assign [.Name x p'] e pos) τ N :=
  cs_of (ps_set hN hi hx h hs hf) fun F0 F B D σ H S L => ⟨F0, F, B, S, fun p xs B' H' y n1 n2 n3 n4 => L.nx _ B' _ H' k y.b (S.newO y n1 n2 n3 n4)⟩
theorem cs_if {c : Expr} {s1 s2 : List Stmt} {b : Bool} (h : CT X c τ b) (h1 : b = true → CSs X s1 τ N) (h2 : b = false → CSs X s2 τ N) : CS X (.If c s1 s2 pos) τ N := by
  cases b with
  | true => exact cs_of (ps_if h (h1 rfl) pss_never) fun F0 F B D σ H S L => ⟨F0, F, B, S, fun B' H' x => iteT ⟨F0, F, B', S.step x, L.mono x.b⟩⟩
  | false => exact cs_of (ps_if h pss_never (h2 rfl)) fun F0 F B D σ H S L => ⟨F0, F, B, S, fun B' H' x => iteF ⟨F0, F, B', S.step x, L.mono x.b⟩⟩
/-- x, y = e1, e2 (two local names) -/
theorem cs_par (i j : Nat) {x y : Str} {px py pt pt2 : Pos} {kt k2} (hN : X.N.Nodup) (ha : CA X [e1, e2] τ [a, b]) (k : N.nx ((τ.set i (some (.val a))).set j (some (.val b)))) (hc : X.calm = true := by rfl) (hi : X.N[i]? = some x := by rfl) (hj : X.N[j]? = some y := by rfl) (hij : i ≠ j := by decide)
    (hx : X.env.scope.names.lookup x = some .local := by rfl) (hy : X.env.scope.names.lookup y = some .local := by rfl)
    (hw : swappedStores [.Tuple [.Name x px, .Name y py] kt pt] (.Tuple [e1, e2] k2 pt2) X.env = pure (some [x, y]) := by rfl)
    (hs : swapsWithSole [.Tuple [.Name x px, .Name y py] kt pt] (.Tuple [e1, e2] k2 pt2) pos.line X.env = pure false := by rfl) :
    CS X (.Assign [.Tuple [.Name x px, .Name y py] kt pt] (.Tuple [e1, e2] k2 pt2) pos) τ N :=
  cs_of (ps_par hc hN hi hj hij hx hy ha hw hs) fun F0 F B D σ H S L => ⟨F0, F, B, S, fun vs B' H' x hv => by
    obtain ⟨v, w, rfl, h1, h2⟩ := reps2 hv
    exact ⟨v, w, rfl, L.nx _ B' _ H' k x.b (((S.step x).set h1).set h2)⟩⟩
/-- x[e1] = e2, x a slot's own list -/
theorem cs_sub (i : Nat) {x : Str} {p' : Pos} {k : Int} {j : Nat} (h2 : CE X e2 τ a) (h1 : CE X e1 τ (.int k)) (hj : ixN l.length k = some j) (q : N.nx (τ.set i (some (.own (l.set j a)))))
    (hN : X.N[i]? = some x := by rfl) (hv : Vis X.env.scope x := by first | exact Or.inl rfl | exact Or.inr (Or.inl rfl) | exact Or.inr (Or.inr rfl)) (ht : τ[i]? = some (some (.own l)) := by rfl) (hd : (x == ("__debug__" : Str)) = false := by decide) (hcd : (x == ("__classdict__" : Str)) = false := by decide)
    (ha : ∀ v, assign (.Subscript (.Name x p') e1 p2) X.env v = (do
      let ov ← holding [v] (eval (.Name x p') X.env)
      let iv ← holding [v, ov] (eval e1 X.env)
      standAt p2
      holding [v, ov, iv] (setItem ov iv v)
      release [v, ov, iv] []) := by intro _; rfl)
    (hs : swapsWithSole [.Subscript (.Name x p') e1 p2] e2 pos.line X.env = pure false := by rfl) (hw : swappedStores [.Subscript (.Name x p') e1 p2] e2 X.env = pure none := by rfl)
    (hl : (assignEach [.Subscript (.Name x p') e1 p2] X.env).map (·.2) = [assign (.Subscript (.Name x p') e1 p2) X.env] := by rfl) :
    CS X (.Assign [.Subscript (.Name x p') e1 p2] e2 pos) τ N :=
  cs_of (ps_asg h2 (pg_sub (pe_var hN hv hd hcd) h1 set_list ha) hs hw hl) fun F0 F B D σ H S L => ⟨F0, F, B, S, fun v B1 H1 x1 hv => by
    have S1 := S.step x1
    obtain ⟨p, xs, g1, g2, g3, g4, g5⟩ := S1.own ht
    refine ⟨.ref p, g1, F0, F, B1, S1, fun w B2 H2 x2 hw => ?_⟩
    have S2 := S1.step x2
    obtain ⟨p', xs', g1', g2', g3', g4', g5'⟩ := S2.own ht
    rw [g1] at g1'
    cases g1'
    refine ⟨p, xs', k, j, rfl, hw, g4', by rw [g5'.length]; exact hj, ?_⟩
    exact L.nx _ B2 _ _ q (x1.b.trans x2.b) (S2.chg ht g1 (Reps.set (a.mono x2.b hv) j g5'))⟩
/-- x.append(e), x a slot's own list -/
theorem cs_app (i : Nat) {x : Str} {px pa : Pos} (h : CE X e τ a) (hz : l.length < 1000000) (k : N.nx (τ.set i (some (.own (l ++ [a])))))
    (hN : X.N[i]? = some x := by rfl) (hv : Vis X.env.scope x := by first | exact Or.inl rfl | exact Or.inr (Or.inl rfl) | exact Or.inr (Or.inr rfl)) (ht : τ[i]? = some (some (.own l)) := by rfl) (hd : (x == ("__debug__" : Str)) = false := by decide) (hcd : (x == ("__classdict__" : Str)) = false := by decide)
    (pe : ∀ (to : TE) (t : TA), PE X (.Name x px) to → PA X [e] t → PE X (.Call (.Attribute (.Name x px) "append" pa) [e] [] p) (tBM X.K "list" rAppend to t) := by exact fun _ _ h1 h2 => pe_bm PySem.F.plainAttrs_list PySem.F.slot_list_append PySem.F.type_list_append mt_append h1 h2)
    (hst : starEach [e] X.env = (false, eval e X.env) :: starEach [] X.env := by rfl)
    (hs : swapsWith (.Call (.Attribute (.Name x px) "append" pa) [e] [] p) none pos.line X.env = pure false := by rfl) : CS X (.Expr (.Call (.Attribute (.Name x px) "append" pa) [e] [] p) pos) τ N :=
  cs_of (ps_expr (pe _ _ (pe_var hN hv hd hcd) (pa_cons h pa_nil hst)) hs) fun F0 F B D σ H S L => by
    obtain ⟨p, xs, g1, g2, g3, g4, g5⟩ := S.own ht
    refine ⟨.ref p, g1, .inl ⟨rfl, xs, SqL.of g4⟩, F0, F, B, S, fun v B1 H1 x1 h1 => ?_⟩
    have S1 := S.step x1
    obtain ⟨p', xs', g1', g2', g3', g4', g5'⟩ := S1.own ht
    rw [g1] at g1'
    cases g1'
    refine ⟨p, xs', v, rfl, rfl, g4', by rw [g5'.length]; exact Nat.lt_of_lt_of_le hz (by decide), ?_⟩
    exact L.nx _ B1 _ _ k x1.b (S1.chg ht g1 (g5'.append (.cons h1 .nil)))
/-- what a slot alone holds may be taken for a value from now on -/
theorem css_fixW (i : Nat) {sh : Shp} {ls : List (List AV)} (h : CSs X sts (τ.set i (some (.val (valOf sh ls)))) N) (ht : τ[i]? = some (some (.ow sh ls)) := by rfl) : CSs X sts τ N := css_of h fun F0 F B D σ H S L => by
  obtain ⟨B1, g, S'⟩ := S.fixW ht
  exact ⟨F0, F, _, S', L.mono g⟩
theorem css_fix (i : Nat) (h : CSs X sts (τ.set i (some (.val (.lst l)))) N) (ht : τ[i]? = some (some (.own l)) := by rfl) : CSs X sts τ N := css_fixW (sh := .bare) (ls := [l]) i h ht
/-- .. or forgotten -/
theorem css_drop (i : Nat) (h : CSs X sts (τ.set i none) N) : CSs X sts τ N := css_of h fun F0 F B D σ H S L => ⟨F0, F, B, by
  have S' := S.none (i := i) (v := (σ[i]?).getD none)
  have e : σ.set i ((σ[i]?).getD none) = σ := by
    apply List.ext_getElem?
    intro j
    by_cases hj : i = j
    · subst hj
      by_cases hl : i < σ.length
      · rw [List.getElem?_set_self hl, List.getElem?_eq_getElem hl]; rfl
      · rw [List.getElem?_eq_none (by rw [List.length_set]; omega), List.getElem?_eq_none (by omega)]
    · rw [List.getElem?_set_ne hj]
  rw [e] at S'
  exact S', L⟩

/-! ### what is walked -/
structure Yields (J : It) (B1 : Hp) (l : List AV) : Prop where
  stop : ∀ i H, Gr B1 H → l.length ≤ i → J.stop i H
  go : ∀ (i : Nat) H a, Gr B1 H → l[i]? = some a → J.go i H
  yld : ∀ (i : Nat) H a x H', Gr B1 H → l[i]? = some a → J.yld i H x H' → ∀ B, Gr B1 B → Gr B H → ∃ B', Ext B H B' H' ∧ a.p B' x
def tI (τ : Tau) (l : List AV) : TI := fun σ H R => ∃ F0 F B, Sta F0 F B σ H τ ∧ ∀ J B1 H1, Ext B H B1 H1 → Yields J B1 l → R J H1
/-- what the expression's walk gives, one after another -/
def CI (X : Cx) (tg e : Expr) (τ : Tau) (l : List AV) : Prop := PI X tg e (tI τ l)
variable {tg iter : Expr}
theorem pi_weak {t t' : TI} (h : PI X tg e t) (k : ∀ σ H Q, t' σ H Q → t σ H Q) : PI X tg e t' := ⟨fun pins s σ H Q I w => h.run pins s σ H Q I (k σ H Q w)⟩
theorem ci_list (h : CE X e τ (.lst l)) : CI X tg e τ l := pi_weak (pi_list h) fun σ H R ⟨F0, F, B, S, q⟩ => ⟨F0, F, B, S, fun v B1 H1 x1 h1 => by
  obtain ⟨a, xs, rfl, h1, h2⟩ := h1
  refine ⟨a, rfl, ⟨xs, SqL.of (x1.s _ _ h1)⟩, q _ B1 H1 x1 ⟨fun i H2 g hi => ⟨xs, SqL.of (g _ _ h1), by rw [h2.length]; exact hi⟩, fun i H2 c g hc => ?_, fun i H2 c x H3 g hc y B g1 g2 => ?_⟩⟩
  · obtain ⟨x, k1, k2⟩ := h2.get hc
    exact ⟨xs, x, SqL.of (g _ _ h1), k1⟩
  · obtain ⟨rfl, y⟩ := y
    obtain ⟨z, k1, k2⟩ := h2.get hc
    have := y xs (SqL.of (g _ _ h1))
    rw [k1] at this
    cases this
    exact ⟨B, .refl g2, c.mono g1 k2⟩⟩
theorem ci_listR (h : CE X e τ (.rdo X.K l)) : CI X tg e τ l := pi_weak (pi_list h) fun σ H R ⟨F0, F, B, S, q⟩ => ⟨F0, F, B, S, fun v B1 H1 x1 h1 => by
  obtain ⟨a, xs, rfl, h1, h2⟩ := h1
  refine ⟨a, rfl, ⟨xs, x1.s.sq h1⟩, q _ B1 H1 x1 ⟨fun i H2 g hi => ⟨xs, g.sq h1, by rw [h2.length]; exact hi⟩, fun i H2 c g hc => ?_, fun i H2 c x H3 g hc y B g1 g2 => ?_⟩⟩
  · obtain ⟨x, k1, k2⟩ := h2.get hc
    exact ⟨xs, x, g.sq h1, k1⟩
  · obtain ⟨rfl, y⟩ := y
    obtain ⟨z, k1, k2⟩ := h2.get hc
    have := y xs (g.sq h1)
    rw [k1] at this
    cases this
    exact ⟨B, .refl g2, c.mono g1 k2⟩⟩
theorem ci_tup (h : CE X e τ (.tup l)) : CI X tg e τ l := pi_weak (pi_tup h) fun σ H R ⟨F0, F, B, S, q⟩ => ⟨F0, F, B, S, fun v B1 H1 x1 h1 => by
  obtain ⟨a, xs, rfl, h1, h2⟩ := h1
  refine ⟨a, rfl, ⟨xs, SqT.of (x1.s _ _ h1)⟩, q _ B1 H1 x1 ⟨fun i H2 g hi => ⟨xs, SqT.of (g _ _ h1), by rw [h2.length]; exact hi⟩, fun i H2 c g hc => ?_, fun i H2 c x H3 g hc y B g1 g2 => ?_⟩⟩
  · obtain ⟨x, k1, k2⟩ := h2.get hc
    exact ⟨xs, x, SqT.of (g _ _ h1), k1⟩
  · obtain ⟨rfl, y⟩ := y
    obtain ⟨z, k1, k2⟩ := h2.get hc
    have := y xs (SqT.of (g _ _ h1))
    rw [k1] at this
    cases this
    exact ⟨B, .refl g2, c.mono g1 k2⟩⟩
/-- the numbers of a range -/
def rng (lo : Int) (n : Nat) : List Int := (List.range n).map fun (i : Nat) => lo + (i : Int)
theorem rng_len (lo : Int) (n : Nat) : (rng lo n).length = n := by simp [rng]
theorem rng_get {lo : Int} {n i : Nat} (h : i < n) : (rng lo n)[i]? = some (lo + (i : Int)) := by simp [rng, h]
theorem y_rng {lo : Int} {n : Nat} {B1 : Hp} : Yields (Itr lo n) B1 ((rng lo n).map AV.int) := by
  refine ⟨fun i H _ hi => ?_, fun i H a _ ha => ?_, fun i H a x H' _ ha y B g1 g2 => ?_⟩
  · rw [List.length_map, rng_len] at hi; exact hi
  · have := (List.getElem?_eq_some_iff.mp ha).1
    rw [List.length_map, rng_len] at this; exact this
  · have hl := (List.getElem?_eq_some_iff.mp ha).1
    rw [List.length_map, rng_len] at hl
    rw [List.getElem?_map, rng_get hl] at ha
    cases ha
    obtain ⟨rfl, y⟩ := y
    exact ⟨B, .refl g2, y⟩
theorem ci_range1 {j : Int} (h : CE X e τ (.int j)) (hj : -1000000 ≤ j ∧ j ≤ 1000000) (hm : X.mg "range" = none) (hg : Gl X "range" := by rfl) (hs : starEach [e] X.env = [(false, eval e X.env)] := by rfl) : CI X tg (.Call (.Name "range" p) [e] [] pos) τ ((rng 0 j.toNat).map AV.int) :=
  pi_weak (pi_range1 hg hm (ca_cons h ca_nil hs) hs) fun σ H R ⟨F0, F, B, S, q⟩ => ⟨F0, F, B, S, fun vs B1 H1 x1 h1 => by
    obtain ⟨v, rfl, k1⟩ := reps1 h1
    have e : v = .int j := k1
    subst e
    exact ⟨j, rfl, by omega, by omega, q _ B1 H1 x1 y_rng⟩⟩
theorem ci_range2 {i j : Int} (h1 : CE X e1 τ (.int i)) (h2 : CE X e2 τ (.int j)) (hi : -1000000 ≤ i ∧ i ≤ 1000000) (hj : -1000000 ≤ j ∧ j ≤ 1000000) (hm : X.mg "range" = none) (hg : Gl X "range" := by rfl)
    (hs : starEach [e1, e2] X.env = [(false, eval e1 X.env), (false, eval e2 X.env)] := by rfl) (hs2 : starEach [e2] X.env = [(false, eval e2 X.env)] := by rfl) : CI X tg (.Call (.Name "range" p) [e1, e2] [] pos) τ ((rng i (j - i).toNat).map AV.int) :=
  pi_weak (pi_range2 hg hm (ca_cons h1 (ca_cons h2 ca_nil hs2) (by rw [hs, hs2])) hs hs2) fun σ H R ⟨F0, F, B, S, q⟩ => ⟨F0, F, B, S, fun vs B1 H1 x1 h1 => by
    obtain ⟨v, w, rfl, h1, h2⟩ := reps2 h1
    cases h1
    cases h2
    exact ⟨i, j, rfl, ⟨by omega, by omega, by omega, by omega⟩, q _ B1 H1 x1 y_rng⟩⟩
/-- the numbered things of a list -/
def enm (l : List AV) : List AV := l.zipIdx.map fun q => .tup [.int (q.2 : Nat), q.1]
theorem enm_get {i : Nat} (h : l[i]? = some a) : (enm l)[i]? = some (.tup [.int (i : Nat), a]) := by
  unfold enm; rw [List.getElem?_map, List.getElem?_zipIdx, h]; simp
theorem enm_get' {i : Nat} {c : AV} (h : (enm l)[i]? = some c) : ∃ a, l[i]? = some a ∧ c = .tup [.int (i : Nat), a] := by
  unfold enm at h
  rw [List.getElem?_map, List.getElem?_zipIdx] at h
  cases q : l[i]? with
  | none => rw [q] at h; cases h
  | some a => rw [q] at h; simp at h; exact ⟨a, rfl, h.symm⟩
theorem enm_len : (enm l).length = l.length := by simp [enm]
theorem ci_enum {kk : Nat} {tpos : Pos} {elts : List Expr} (h : CE X e τ (.lst l)) (hm : X.mg "enumerate" = none) (hg : Gl X "enumerate" := by rfl) (hs : starEach [e] X.env = [(false, eval e X.env)] := by rfl) : CI X (.Tuple elts kk tpos) (.Call (.Name "enumerate" p) [e] [] pos) τ (enm l) :=
  pi_weak (pi_enum hg hm (ca_cons h ca_nil hs) hs) fun σ H R ⟨F0, F, B, S, q⟩ => ⟨F0, F, B, S, fun vs B1 H1 x1 h1 => by
    obtain ⟨v, rfl, a, xs, rfl, h1, h2⟩ := reps1 h1
    refine ⟨a, xs, rfl, SqL.of (x1.s _ _ h1), q _ B1 H1 x1 ⟨fun i H2 g hi => ⟨xs, SqL.of (g _ _ h1), by rw [h2.length, ← enm_len]; exact hi⟩, fun i H2 c g hc => ?_, fun i H2 c x H3 g hc y B g1 g2 => ?_⟩⟩
    · obtain ⟨b, k1, rfl⟩ := enm_get' hc
      obtain ⟨x, k1, k2⟩ := h2.get k1
      exact ⟨xs, x, SqL.of (g _ _ h1), k1⟩
    · obtain ⟨b, k1, rfl⟩ := enm_get' hc
      obtain ⟨z, k1, k2⟩ := h2.get k1
      obtain ⟨T, x', rfl, hT, rfl, y⟩ := y
      have := y xs (SqL.of (g _ _ h1))
      rw [k1] at this
      cases this
      exact ⟨_, .new g2 hT, T, _, rfl, upd_same, .cons rfl (.cons (b.mono (g1.trans (.new (g2.back hT))) k2) .nil)⟩⟩
/-- two lists side by side -/
def zp (l m : List AV) : List AV := (l.zip m).map fun q => .tup [q.1, q.2]
theorem zp_get' {i : Nat} {c : AV} (h : (zp l m)[i]? = some c) : ∃ a b, l[i]? = some a ∧ m[i]? = some b ∧ c = .tup [a, b] := by
  unfold zp at h
  rw [List.getElem?_map] at h
  cases q : (l.zip m)[i]? with
  | none => rw [q] at h; cases h
  | some z =>
    rw [q] at h
    have := List.getElem?_zip_eq_some.mp q
    exact ⟨z.1, z.2, this.1, this.2, by simpa using h.symm⟩
theorem zp_len : (zp l m).length = min l.length m.length := by simp [zp]
theorem ci_zip {kk : Nat} {tpos : Pos} {elts : List Expr} (h1 : CE X e1 τ (.lst l)) (h2 : CE X e2 τ (.lst m)) (hm : X.mg "zip" = none) (hg : Gl X "zip" := by rfl) (hs : starEach [e1, e2] X.env = (false, eval e1 X.env) :: starEach [e2] X.env := by rfl) (hs2 : starEach [e2] X.env = (false, eval e2 X.env) :: starEach [] X.env := by rfl)
    (hpl : (backTo pos (starEach [e2] X.env)).any (·.1) = false := by rfl) : CI X (.Tuple elts kk tpos) (.Call (.Name "zip" p) [e1, e2] [] pos) τ (zp l m) :=
  pi_weak (pi_zip hg hm (ca_cons h1 (ca_cons h2 ca_nil hs2) hs) hs hpl) fun σ H R ⟨F0, F, B, S, q⟩ => ⟨F0, F, B, S, fun vs B1 H1 x1 h1 => by
    obtain ⟨v, w, rfl, ⟨a, xs, rfl, h1', h2⟩, ⟨b, ys, rfl, k1, k2⟩⟩ := reps2 h1
    clear h1
    have h1 := h1'
    refine ⟨a, b, xs, ys, rfl, SqL.of (x1.s _ _ h1), SqL.of (x1.s _ _ k1), q _ B1 H1 x1 ⟨fun i H2 g hi => ⟨xs, ys, SqL.of (g _ _ h1), SqL.of (g _ _ k1), ?_⟩, fun i H2 c g hc => ?_, fun i H2 c x H3 g hc y B g1 g2 => ?_⟩⟩
    · rw [zp_len] at hi; rw [h2.length, k2.length]; omega
    · obtain ⟨c1, c2, q1, q2, rfl⟩ := zp_get' hc
      obtain ⟨x, z1, _⟩ := h2.get q1
      obtain ⟨y, z2, _⟩ := k2.get q2
      exact ⟨xs, ys, x, y, SqL.of (g _ _ h1), SqL.of (g _ _ k1), z1, z2⟩
    · obtain ⟨c1, c2, q1, q2, rfl⟩ := zp_get' hc
      obtain ⟨u1, z1, g3⟩ := h2.get q1
      obtain ⟨u2, z2, g4⟩ := k2.get q2
      obtain ⟨T, x', y', rfl, hT, rfl, y1, y2⟩ := y
      have e1 := y1 xs (SqL.of (g _ _ h1))
      have e2 := y2 ys (SqL.of (g _ _ k1))
      rw [z1] at e1
      rw [z2] at e2
      cases e1
      cases e2
      have gg := g1.trans (.new (g2.back hT) (o := .tup [u1, u2]))
      exact ⟨_, .new g2 hT, T, _, rfl, upd_same, .cons (c1.mono gg g3) (.cons (c2.mono gg g4) .nil)⟩⟩

/-! ### targets -/
def GA (g : TG) (a : AV) (τ τ' : Tau) : Prop := ∀ F0 F B σ H v Q, Sta F0 F B σ H τ → a.p B v → (∀ σ', Sta F0 F B σ' H τ' → Q σ' H) → g v σ H Q
theorem ga_name (i : Nat) : GA (gName i) a τ (τ.set i (some (.val a))) := fun F0 F B σ H v Q S h q => q _ (S.set h)
theorem ga_tup2 {K : PySem.W.Frag} (i j : Nat) : GA (gTup K 2 (gCons (gName i) (gCons (gName j) gNil))) (.tup [a, b]) τ ((τ.set i (some (.val a))).set j (some (.val b))) := fun F0 F B σ H v Q S h q => by
  obtain ⟨p, xs, rfl, h1, h2⟩ := h
  obtain ⟨x, y, rfl, k1, k2⟩ := reps2 h2
  exact ⟨p, [x, y], rfl, SqT.of (S.gr _ _ h1), rfl, x, [y], rfl, y, [], rfl, rfl, q _ ((S.set k1).set k2)⟩

/-! ### for -/
theorem cs_for {body : List Stmt} {g : TG} (I : Nat → Tau → Prop) (hi : CI X tg iter τ l) (hg : PG X tg g)
    (h0 : I 0 τ) (hb : ∀ (i : Nat) a τ1, l[i]? = some a → I i τ1 → ∃ τ2, GA g a τ1 τ2 ∧ CSs X body τ2 ⟨I (i + 1), N.rt, N.rn, N.nx, I (i + 1)⟩) (hd : ∀ τ', I l.length τ' → N.nx τ')
    (hp : PassesOwn (model X.prog X.w) X.A X.env X.xe := by exact PassesOwn.never) (hc : X.calm = true := by rfl) (hs : ∀ x, foldedSetIterable iter X.env x = pure x := by intro _; rfl) : CS X (.For tg iter body [] pos) τ N := by
  refine cs_of (ps_for hp hc hi hg (pss_any (ι := { q : Nat × Tau // CSs X body q.2 ⟨I (q.1 + 1), N.rt, N.rn, N.nx, I (q.1 + 1)⟩ }) (t := fun q => tS q.1.2 ⟨I (q.1.1 + 1), N.rt, N.rn, N.nx, I (q.1.1 + 1)⟩) (fun q => q.2)) hs) fun F0 F B D σ H S L => ?_
  refine ⟨F0, F, B, S, fun J B1 H1 x1 Y => ?_⟩
  refine ⟨fun i n σ H => n = l.length - i ∧ i ≤ l.length ∧ ∃ τ' B', I i τ' ∧ Gr B1 B' ∧ Sta F0 F B' σ H τ', ⟨l.length, by simp, Nat.zero_le _, τ, B1, h0, .refl _, S.step x1⟩, ?_⟩
  rintro i n σ' H' ⟨rfl, hil, τ', B', hI, g1, S'⟩
  have gH : Gr B1 H' := g1.trans S'.gr
  by_cases hlt : i < l.length
  · have ha : l[i]? = some l[i] := List.getElem?_eq_getElem hlt
    refine .inr ⟨Y.go i H' _ gH ha, fun σ2 H2 => ∃ τ2 B2, I (i + 1) τ2 ∧ Gr B1 B2 ∧ Sta F0 F B2 σ2 H2 τ2, fun σ2 H2 ⟨τ2, B2, k1, k2, k3⟩ => ⟨l.length - (i + 1), by omega, rfl, hlt, τ2, B2, k1, k2, k3⟩, fun x H2 y => ?_⟩
    obtain ⟨B2, x2, hx⟩ := Y.yld i H' _ x H2 gH ha y B' g1 S'.gr
    obtain ⟨τ2, gg, hbody⟩ := hb i _ τ' ha hI
    have g2 : Gr B B1 := x1.b
    have g3 : Gr B1 B2 := g1.trans x2.b
    refine gg F0 F B2 σ' H2 x _ (S'.step x2) hx fun σ3 S3 => ⟨⟨(i, τ2), hbody⟩, F0, F, B2, S3, ?_⟩
    exact ⟨fun τ3 B3 σ3 H3 n g S => ⟨τ3, B3, n, g3.trans g, S⟩, L.rt, L.rn, fun τ3 B3 σ3 H3 n g S => L.nx τ3 B3 σ3 H3 n (g2.trans (g3.trans g)) S, fun τ3 B3 σ3 H3 n g S => ⟨τ3, B3, n, g3.trans g, S⟩⟩
  · have e : i = l.length := by omega
    subst e
    exact .inl ⟨Y.stop _ H' gH (Nat.le_refl _), L.nx τ' B' σ' H' (hd τ' hI) (x1.b.trans g1) S'⟩
end
end Ab
set_option Elab.async false
set_option linter.all false
set_option maxRecDepth 100000
set_option maxHeartbeats 1000000
namespace Ab
open PySem L2

/-! ### slots forgotten in a comprehension -/
def wipeT (τ : Tau) : List Nat → Tau
  | [] => τ
  | v :: vs => (wipeT τ vs).set v none
theorem Sta.wipe {F0 F B : Hp} {σ : St} {H : Hp} {τ : Tau} (S : Sta F0 F B σ H τ) : ∀ vs : List Nat, Sta F0 F B (L2.wipe σ vs) H (wipeT τ vs)
  | [] => S
  | v :: vs => (Sta.wipe S vs).none
theorem wipe_set_none (σ : St) (j : Nat) (x : Option V) : ∀ vs : List Nat, (wipe (σ.set j x) vs).set j none = (wipe σ vs).set j none
  | [] => by show (σ.set j x).set j none = σ.set j none; rw [List.set_set]
  | v :: vs => by
    show ((wipe (σ.set j x) vs).set v none).set j none = ((wipe σ vs).set v none).set j none
    by_cases h : v = j
    · subst h; rw [List.set_set, List.set_set]; exact wipe_set_none σ v x vs
    · rw [List.set_comm _ _ h, wipe_set_none σ j x vs, List.set_comm _ _ h]
theorem wipe_put (σ : St) (j : Nat) (x : Option V) : ∀ vs : List Nat, j ∈ vs → wipe (σ.set j x) vs = wipe σ vs
  | v :: vs, h => by
    show (wipe (σ.set j x) vs).set v none = (wipe σ vs).set v none
    rcases List.mem_cons.mp h with rfl | h
    · exact wipe_set_none σ j x vs
    · rw [wipe_put σ j x vs h]
theorem wipe_twice (σ : St) : ∀ vs : List Nat, wipe (wipe σ vs) vs = wipe σ vs := by
  have key : ∀ (ws vs : List Nat), (∀ j ∈ ws, j ∈ vs) → wipe (wipe σ ws) vs = wipe σ vs := by
    intro ws
    induction ws with
    | nil => intro vs _; rfl
    | cons w ws ih =>
      intro vs h
      show wipe ((wipe σ ws).set w none) vs = wipe σ vs
      rw [wipe_put _ _ _ vs (h w (List.mem_cons_self)), ih vs fun j hj => h j (List.mem_cons_of_mem _ hj)]
  exact fun vs => key vs vs fun _ h => h
def GAw (g : TG) (vs : List Nat) (a : AV) (τ τ' : Tau) : Prop := ∀ F0 F B σ H v Q, Sta F0 F B σ H τ → a.p B v → (∀ σ', Sta F0 F B σ' H τ' → wipe σ' vs = wipe σ vs → Q σ' H) → g v σ H Q
section
variable {a b : AV} {τ : Tau} {vs : List Nat}
theorem gaw_name (i : Nat) (hi : i ∈ vs) : GAw (gName i) vs a τ (τ.set i (some (.val a))) := fun F0 F B σ H v Q S h q => q _ (S.set h) (wipe_put _ _ _ _ hi)
theorem gaw_tup2 {K : PySem.W.Frag} (i j : Nat) (hi : i ∈ vs) (hj : j ∈ vs) : GAw (gTup K 2 (gCons (gName i) (gCons (gName j) gNil))) vs (.tup [a, b]) τ ((τ.set i (some (.val a))).set j (some (.val b))) := fun F0 F B σ H v Q S h q => by
  obtain ⟨p, xs, rfl, h1, h2⟩ := h
  obtain ⟨x, y, rfl, k1, k2⟩ := reps2 h2
  exact ⟨p, [x, y], rfl, SqT.of (S.gr _ _ h1), rfl, x, [y], rfl, y, [], rfl, rfl, q _ ((S.set k1).set k2) (by rw [wipe_put _ _ _ _ hj, wipe_put _ _ _ _ hi])⟩
end

/-! ### comprehensions -/
section
variable {X : Cx} {τ : Tau} {pos : Pos} {N : AE}
def CTs (X : Cx) (ifs : List Expr) (τ : Tau) (b : Bool) : Prop := PTs X ifs (tT τ b)
theorem pts_weak {ifs : List Expr} {t t' : TT} (h : PTs X ifs t) (k : ∀ σ H Q, t' σ H Q → t σ H Q) : PTs X ifs t' := ⟨fun pins s σ H Q I w => h.run pins s σ H Q I (k σ H Q w)⟩
theorem cts_nil : CTs X [] τ true := pts_weak pts_nil fun σ H Q ⟨F0, F, B, S, q⟩ => q B H (.refl S.gr)
theorem cts_one {c : Expr} {b : Bool} (h : CT X c τ b) : CTs X [c] τ b := pts_one h
theorem pts_any {ι : Type} {ifs : List Expr} {t : ι → TT} (h : ∀ i, PTs X ifs (t i)) : PTs X ifs (fun σ H Q => ∃ i, t i σ H Q) := ⟨fun pins s σ H D I ⟨i, w⟩ => (h i).run pins s σ H D I w⟩

variable {α : Type} {xs : List α} {φ χ : α → AV} {P : α → Bool} {τx : α → Tau} {g : TG} {vs : List Nat}
def anyT (xs : List α) (P : α → Bool) (τx : α → Tau) : TT := fun σ H Q => ∃ x : { x : α // x ∈ xs }, tT (τx x.1) (P x.1) σ H Q
def anyE (xs : List α) (P : α → Bool) (χ : α → AV) (τx : α → Tau) : TE := fun σ H Q => ∃ x : { x : α // x ∈ xs ∧ P x = true }, tE (τx x.1) (χ x.1) σ H Q
theorem lc_read (hz : xs.length ≤ 1000000) (hga : ∀ x ∈ xs, GAw g vs (φ x) (wipeT τ vs) (τx x)) {F0 F B : Hp} {σ : St} {H : Hp} {Q : VK} (S : Sta F0 F B σ H τ)
    (q : ∀ p ys B' H', Ext B H B' H' → H p = none → B' p = none → H' p = some (.lst ys) → Reps B' ys ((xs.filter P).map χ) → Q (.ref p) H') :
    tLc (tI τ (xs.map φ)) g (anyT xs P τx) (anyE xs P χ τx) vs σ H Q := by
  refine ⟨F0, F, B, S, fun J B1 H1 x1 Y D hD => ?_⟩
  refine ⟨fun i n H' => n = xs.length - i ∧ i ≤ xs.length ∧ ∃ B' acc, Ext B1 H1 B' H' ∧ B' D = none ∧ H' D = some (.lst acc) ∧ Reps B' acc (((xs.take i).filter P).map χ), ⟨xs.length, by simp, Nat.zero_le _, B1, [], .newO x1.s hD, x1.s.back hD, upd_same, by simp; exact .nil⟩, ?_⟩
  rintro i n H' ⟨rfl, hil, B', acc, xB, hBD, hHD, hr⟩
  have gH : Gr B1 H' := xB.b.trans xB.s
  by_cases hlt : i < xs.length
  · have hx : xs[i]? = some xs[i] := List.getElem?_eq_getElem hlt
    have hm : xs[i] ∈ xs := List.getElem_mem hlt
    have ha : (xs.map φ)[i]? = some (φ xs[i]) := by rw [List.getElem?_map, hx]; rfl
    have et : xs.take (i + 1) = xs.take i ++ [xs[i]] := by rw [List.take_succ, hx]; rfl
    refine .inr ⟨Y.go i H' _ gH ha, fun H2 => ∃ B2 acc2, Ext B1 H1 B2 H2 ∧ B2 D = none ∧ H2 D = some (.lst acc2) ∧ Reps B2 acc2 (((xs.take (i + 1)).filter P).map χ), fun H2 h2 => ⟨xs.length - (i + 1), by omega, rfl, hlt, h2⟩, fun x H2 y => ?_⟩
    obtain ⟨B2, x2, hx2⟩ := Y.yld i H' _ x H2 gH ha y B' xB.b xB.s
    have S2 : Sta F0 F B2 (L2.wipe σ vs) H2 (wipeT τ vs) := ((S.wipe vs).step x1).step (xB.trans x2)
    refine hga _ hm F0 F B2 _ H2 x _ S2 hx2 fun σ3 S3 hw => ⟨by rw [hw, wipe_twice], ⟨xs[i], hm⟩, F0, F, B2, S3, fun B3 H3 x3 => ?_⟩
    have x23 : Ext B' H' B3 H3 := x2.trans x3
    have hB3 : B3 D = none := (x23.f D _ hHD).trans hBD
    have hH3 : H3 D = some (.lst acc) := x23.h D _ hHD
    cases hP : P xs[i] with
    | true =>
      refine iteT ⟨⟨xs[i], hm, hP⟩, F0, F, B3, S3.step x3, fun v B4 H4 x4 hv => ?_⟩
      have hB4 : B4 D = none := (x4.f D _ hH3).trans hB3
      refine ⟨acc, x4.h D _ hH3, ?_, B4, acc ++ [v], ((xB.trans x23).trans x4).chg hD hB4, hB4, upd_same, ?_⟩
      · rw [hr.length, List.length_map]
        have := List.length_filter_le P (xs.take i)
        rw [List.length_take] at this
        exact Nat.lt_of_lt_of_le (show _ < 1000001 by omega) (by decide)
      · rw [et, List.filter_append, List.map_append]
        have : List.filter P [xs[i]] = [xs[i]] := by simp [hP]
        rw [this]
        exact (hr.mono (x23.b.trans x4.b)).append (.cons hv .nil)
    | false =>
      refine iteF ⟨B3, acc, xB.trans x23, hB3, hH3, ?_⟩
      rw [et, List.filter_append, List.map_append]
      have : List.filter P [xs[i]] = [] := by simp [hP]
      rw [this, List.map_nil, List.append_nil]
      exact hr.mono x23.b
  · have e : i = xs.length := by omega
    subst e
    rw [List.take_length] at hr
    exact .inl ⟨Y.stop _ H' gH (by rw [List.length_map]; exact Nat.le_refl _), q D acc B' H' (x1.trans xB) (x1.h.back hD) hBD hHD hr⟩
variable {elt tg iter : Expr} {ifs : List Expr} {scope : Scope} {own : List (Str × Nat)}
theorem cn_lc (xs : List α) (φ χ : α → AV) (P : α → Bool) (τx : α → Tau) (hc : X.calm = true) (hN : X.N.Nodup) (hi : CI X tg iter τ (xs.map φ)) (ok : BlkOk X.N X.env.scope scope own)
    (hg : ∀ (s : Shared) (H : Hp) (C : Addr) (cl : List (Str × Addr)) (fp : List Addr), PG (X.blk s H scope (compEnvC scope cl C X.env) fp) tg g)
    (hz : xs.length ≤ 1000000) (hga : ∀ x ∈ xs, GAw g (own.map (·.2)) (φ x) (wipeT τ (own.map (·.2))) (τx x))
    (ht : ∀ x ∈ xs, ∀ (s : Shared) (H : Hp) (C : Addr) (cl : List (Str × Addr)) (fp : List Addr), CTs (X.blk s H scope (compEnvC scope cl C X.env) fp) ifs (τx x) (P x))
    (he : ∀ x ∈ xs, P x = true → ∀ (s : Shared) (H : Hp) (C : Addr) (cl : List (Str × Addr)) (fp : List Addr), CE (X.blk s H scope (compEnvC scope cl C X.env) fp) elt (τx x) (χ x))
    (hs : ∀ x, foldedSetIterable iter X.env x = pure x) : CN X (.ListComp elt [⟨tg, iter, ifs, 0⟩] scope pos) τ ((xs.filter P).map χ) :=
  cn_of (pe_lc hc hN hi ok hg (tt := anyT xs P τx) (te := anyE xs P χ τx) (fun s H C cl fp => pts_any fun x => ht x.1 x.2 s H C cl fp) (fun s H C cl fp => pe_any fun x => he x.1 x.2.1 x.2.2 s H C cl fp) hs) fun F0 F B σ H Q S q => lc_read hz hga S q
/-- y = [..], y a local name: the new list may be its own, or a value -/
theorem cs_setLcO (i : Nat) {y : Str} {py spos : Pos} (xs : List α) (φ χ : α → AV) (P : α → Bool) (τx : α → Tau) (hc : X.calm = true) (hN : X.N.Nodup) (hy : X.N[i]? = some y) (hyl : X.env.scope.names.lookup y = some .local)
    (hsw : swapsWith (.ListComp elt [⟨tg, iter, ifs, 0⟩] scope pos) (some (.Name y py)) spos.line X.env = pure true) (hi : CI X tg iter τ (xs.map φ)) (ok : BlkOk X.N X.env.scope scope own)
    (hg : ∀ (s : Shared) (H : Hp) (C : Addr) (cl : List (Str × Addr)) (fp : List Addr), PG (X.blk s H scope (compEnvC scope cl C X.env) fp) tg g)
    (hz : xs.length ≤ 1000000) (hga : ∀ x ∈ xs, GAw g (own.map (·.2)) (φ x) (wipeT τ (own.map (·.2))) (τx x))
    (ht : ∀ x ∈ xs, ∀ (s : Shared) (H : Hp) (C : Addr) (cl : List (Str × Addr)) (fp : List Addr), CTs (X.blk s H scope (compEnvC scope cl C X.env) fp) ifs (τx x) (P x))
    (he : ∀ x ∈ xs, P x = true → ∀ (s : Shared) (H : Hp) (C : Addr) (cl : List (Str × Addr)) (fp : List Addr), CE (X.blk s H scope (compEnvC scope cl C X.env) fp) elt (τx x) (χ x))
    (hs : ∀ x, foldedSetIterable iter X.env x = pure x) (k : N.nx (τ.set i (some (.own ((xs.filter P).map χ))))) : CS X (.Assign [.Name y py] (.ListComp elt [⟨tg, iter, ifs, 0⟩] scope pos) spos) τ N :=
  cs_of (ps_setLc hc hN hy hyl hsw hi ok hg (tt := anyT xs P τx) (te := anyE xs P χ τx) (fun s H C cl fp => pts_any fun x => ht x.1 x.2 s H C cl fp) (fun s H C cl fp => pe_any fun x => he x.1 x.2.1 x.2.2 s H C cl fp) hs) fun F0 F B D σ H S L =>
    lc_read hz hga S fun p ys B' H' x n1 n2 n3 n4 => L.nx _ B' _ H' k x.b (S.newO x n1 n2 n3 n4)
theorem cs_setLc (i : Nat) {y : Str} {py spos : Pos} (xs : List α) (φ χ : α → AV) (P : α → Bool) (τx : α → Tau) (hc : X.calm = true) (hN : X.N.Nodup) (hy : X.N[i]? = some y) (hyl : X.env.scope.names.lookup y = some .local)
    (hsw : swapsWith (.ListComp elt [⟨tg, iter, ifs, 0⟩] scope pos) (some (.Name y py)) spos.line X.env = pure true) (hi : CI X tg iter τ (xs.map φ)) (ok : BlkOk X.N X.env.scope scope own)
    (hg : ∀ (s : Shared) (H : Hp) (C : Addr) (cl : List (Str × Addr)) (fp : List Addr), PG (X.blk s H scope (compEnvC scope cl C X.env) fp) tg g)
    (hz : xs.length ≤ 1000000) (hga : ∀ x ∈ xs, GAw g (own.map (·.2)) (φ x) (wipeT τ (own.map (·.2))) (τx x))
    (ht : ∀ x ∈ xs, ∀ (s : Shared) (H : Hp) (C : Addr) (cl : List (Str × Addr)) (fp : List Addr), CTs (X.blk s H scope (compEnvC scope cl C X.env) fp) ifs (τx x) (P x))
    (he : ∀ x ∈ xs, P x = true → ∀ (s : Shared) (H : Hp) (C : Addr) (cl : List (Str × Addr)) (fp : List Addr), CE (X.blk s H scope (compEnvC scope cl C X.env) fp) elt (τx x) (χ x))
    (hs : ∀ x, foldedSetIterable iter X.env x = pure x) (k : N.nx (τ.set i (some (.val (.lst ((xs.filter P).map χ)))))) : CS X (.Assign [.Name y py] (.ListComp elt [⟨tg, iter, ifs, 0⟩] scope pos) spos) τ N :=
  cs_of (ps_setLc hc hN hy hyl hsw hi ok hg (tt := anyT xs P τx) (te := anyE xs P χ τx) (fun s H C cl fp => pts_any fun x => ht x.1 x.2 s H C cl fp) (fun s H C cl fp => pe_any fun x => he x.1 x.2.1 x.2.2 s H C cl fp) hs) fun F0 F B D σ H S L =>
    lc_read hz hga S fun p ys B' H' x n1 n2 n3 n4 => L.nx _ _ _ H' k (x.b.trans (.new n2)) ((S.step (x.fix n1 n2 n3)).set ⟨p, ys, rfl, upd_same, n4.mono (.new n2)⟩)
theorem filter_yes (xs : List α) : xs.filter (fun _ => true) = xs := by simp

/-! ### while -/
theorem pt_any {ι : Type} {e : Expr} {t : ι → TT} (h : ∀ i, PT X e (t i)) : PT X e (fun σ H Q => ∃ i, t i σ H Q) := ⟨fun pins s σ H D I ⟨i, w⟩ => (h i).run pins s σ H D I w⟩
theorem cs_while {c : Expr} {body : List Stmt} (I : Nat → Tau → Prop) (m0 : Nat) (h0 : I m0 τ)
    (ht : ∀ n τ', I n τ' → ∃ b, CT X c τ' b ∧ (b = true → CSs X body τ' ⟨fun τ2 => ∃ n', n' < n ∧ I n' τ2, N.rt, N.rn, N.nx, fun τ2 => ∃ n', n' < n ∧ I n' τ2⟩) ∧ (b = false → N.nx τ')) (hp : PassesOwn (model X.prog X.w) X.A X.env X.xe := by exact PassesOwn.never) : CS X (.While c body [] pos) τ N := by
  refine cs_of (ps_while hp (pt_any (ι := { q : Tau × Bool // CT X c q.1 q.2 }) (t := fun q => tT q.1.1 q.1.2) fun q => q.2)
    (pss_any (ι := { q : Nat × Tau // CSs X body q.2 ⟨fun τ2 => ∃ n', n' < q.1 ∧ I n' τ2, N.rt, N.rn, N.nx, fun τ2 => ∃ n', n' < q.1 ∧ I n' τ2⟩ }) (t := fun q => tS q.1.2 ⟨fun τ2 => ∃ n', n' < q.1.1 ∧ I n' τ2, N.rt, N.rn, N.nx, fun τ2 => ∃ n', n' < q.1.1 ∧ I n' τ2⟩) fun q => q.2)) fun F0 F B D σ H S L => ?_
  refine ⟨fun n σ' H' => ∃ τ' B', I n τ' ∧ Gr B B' ∧ Sta F0 F B' σ' H' τ', ⟨m0, τ, B, h0, .refl _, S⟩, ?_⟩
  rintro n σ' H' ⟨τ', B', hI, g1, S'⟩
  obtain ⟨b, hb, hT, hF⟩ := ht n τ' hI
  refine ⟨⟨(τ', b), hb⟩, F0, F, B', S', fun B2 H2 x2 => ?_⟩
  cases b with
  | true =>
    refine iteT ⟨fun σ2 H2 => ∃ n', n' < n ∧ ∃ τ2 B2, I n' τ2 ∧ Gr B B2 ∧ Sta F0 F B2 σ2 H2 τ2, fun σ2 H2 h => h, ⟨(n, τ'), hT rfl⟩, F0, F, B2, S'.step x2, ?_⟩
    have g2 := g1.trans x2.b
    exact ⟨fun τ3 B3 σ3 H3 ⟨n', h1, h2⟩ g S => ⟨n', h1, τ3, B3, h2, g2.trans g, S⟩, L.rt, L.rn, fun τ3 B3 σ3 H3 n g S => L.nx τ3 B3 σ3 H3 n (g2.trans g) S, fun τ3 B3 σ3 H3 ⟨n', h1, h2⟩ g S => ⟨n', h1, τ3, B3, h2, g2.trans g, S⟩⟩
  | false => exact iteF (L.nx τ' B2 σ' H2 (hF rfl) (g1.trans x2.b) (S'.step x2))
end

/-! ### a def -/
def startT (N : List Str) (as : List AV) : Tau := as.map (fun a => some (.val a)) ++ List.replicate (N.length - as.length) none
theorem sta_start {B H : Hp} {vs : List V} {as : List AV} {N : List Str} (g : Gr B H) (h : Reps B vs as) : Sta B H B (start N vs) H (startT N as) := by
  have key : ∀ (i : Nat) s, (startT N as)[i]? = some (some s) → ∃ a, as[i]? = some a ∧ s = .val a := fun i s e => by
    unfold startT at e
    by_cases hi : i < as.length
    · rw [List.getElem?_append_left (by rw [List.length_map]; exact hi), List.getElem?_map, List.getElem?_eq_getElem hi] at e
      refine ⟨as[i], List.getElem?_eq_getElem hi, ?_⟩
      simp at e
      exact e.symm
    · rw [List.getElem?_append_right (by rw [List.length_map]; omega), List.getElem?_replicate] at e
      split at e <;> cases e
  refine ⟨.refl g, ?_, fun i a e => ?_, fun _ => [], fun i sh l e => ?_, fun i j sh l sh' l' x _ e => ?_⟩
  · unfold L2.start startT
    rw [List.length_append, List.length_append, List.length_map, List.length_map, List.length_replicate, List.length_replicate, h.length]
  · obtain ⟨b, h1, h2⟩ := key i _ e
    cases h2
    obtain ⟨v, k1, k2⟩ := h.get h1
    refine ⟨v, ?_, k2⟩
    unfold L2.start
    rw [List.getElem?_append_left (by rw [List.length_map]; exact (List.getElem?_eq_some_iff.mp k1).1), List.getElem?_map, k1]
    rfl
  · obtain ⟨b, h1, h2⟩ := key i _ e
    cases h2
  · obtain ⟨b, h1, h2⟩ := key i _ e
    cases h2
section
variable {P : Program} {w : World} {K : PySem.W.Frag} {mg : Str → Option Value} {base : Heap}
theorem okA {x qual : Str} {st : Stmt} {f : Addr} {fd : FuncData} {N ps : List Str} {k : Nat} {R : List AV → AV → Prop} (F : Fun K x qual st f fd) (S : FnScope N ps (defScope st)) (len : ∀ as a, R as a → as.length = ps.length)
    (body : ∀ (cdv : Value) (A : Around) (outer : List Env) (s : Shared) (H : Hp) (E : XK), Room k (A.deeper (PyProof.Rows.envOfC qual (defScope st) s.heap.objs.size f cdv)) → ∀ as a, R as a →
      CSs (cxOf CX0 P w K mg base N qual (defScope st) f cdv A outer s H E).nox (defBody st) (startT N as) { nx := fun _ => a = .non, rt := fun c => c = a }) : FnOk P w K mg base CX0 (k + 1) f fd ps (spA R) := by
  refine F.ok S (fun vs H Q E ⟨as, a, B, hR, _, hr, _⟩ => by rw [hr.length]; exact len as a hR) fun cdv A outer s H vs Q E hr ⟨as, a, B, hR, g, hv, q⟩ => ⟨_, body cdv A outer s H E hr as a hR, B, H, B, sta_start g hv, ?_⟩
  refine ⟨fun τ B' σ' H' e _ S' => ?_, fun c v B' H' e x hv => ?_, fun _ _ _ _ _ _ e => e.elim, fun _ _ _ _ e => e.elim, fun _ _ _ _ e => e.elim⟩
  · have e' : a = .non := e
    subst e'
    exact q .non B' H' S'.ext rfl
  · have e' : c = a := e
    subst e'
    exact q v B' H' x hv
theorem okN {x qual : Str} {st : Stmt} {f : Addr} {fd : FuncData} {N ps : List Str} {k : Nat} {R : List AV → List AV → Prop} (F : Fun K x qual st f fd) (S : FnScope N ps (defScope st)) (len : ∀ as a, R as a → as.length = ps.length)
    (body : ∀ (cdv : Value) (A : Around) (outer : List Env) (s : Shared) (H : Hp) (E : XK), Room k (A.deeper (PyProof.Rows.envOfC qual (defScope st) s.heap.objs.size f cdv)) → ∀ as l, R as l →
      CSs (cxOf CX0 P w K mg base N qual (defScope st) f cdv A outer s H E).nox (defBody st) (startT N as) { rn := fun c => c = (.bare, [l]) }) : FnOk P w K mg base CX0 (k + 1) f fd ps (spN R) := by
  refine F.ok S (fun vs H Q E ⟨as, a, B, hR, _, hr, _⟩ => by rw [hr.length]; exact len as a hR) fun cdv A outer s H vs Q E hr ⟨as, l, B, hR, g, hv, q⟩ => ⟨_, body cdv A outer s H E hr as l hR, B, H, B, sta_start g hv, ?_⟩
  refine ⟨fun _ _ _ _ e => e.elim, fun _ _ _ _ e => e.elim, fun sh ls v fp B' H' e x o => ?_, fun _ _ _ _ e => e.elim, fun _ _ _ _ e => e.elim⟩
  cases e
  obtain ⟨rs, ps, e, r, pr⟩ := o.ex
  cases r with
  | bare p =>
    cases pr with
    | cons z t =>
      obtain ⟨xs, h1, h2⟩ := z
      have m : p ∈ fp := by rw [e]; simp
      exact q p xs B' H' x (o.nf p m).1 (o.nf p m).2 h1 h2
/-- a def that gives something new of its own -/
def spW (R : List AV → Shp × List (List AV) → Prop) : Sp := fun vs H Q _ => ∃ as sh ls B, R as (sh, ls) ∧ Gr B H ∧ Reps B vs as ∧ ∀ v fp B' H', Ext B H B' H' → OwnAt H B' H' v sh ls fp → Q v H'
theorem okW {x qual : Str} {st : Stmt} {f : Addr} {fd : FuncData} {N ps : List Str} {k : Nat} {R : List AV → Shp × List (List AV) → Prop} (F : Fun K x qual st f fd) (S : FnScope N ps (defScope st)) (len : ∀ as a, R as a → as.length = ps.length)
    (body : ∀ (cdv : Value) (A : Around) (outer : List Env) (s : Shared) (H : Hp) (E : XK), Room k (A.deeper (PyProof.Rows.envOfC qual (defScope st) s.heap.objs.size f cdv)) → ∀ as l, R as l →
      CSs (cxOf CX0 P w K mg base N qual (defScope st) f cdv A outer s H E).nox (defBody st) (startT N as) { rn := fun c => c = l }) : FnOk P w K mg base CX0 (k + 1) f fd ps (spW R) := by
  refine F.ok S (fun vs H Q E ⟨as, sh, ls, B, hR, _, hr, _⟩ => by rw [hr.length]; exact len as _ hR) fun cdv A outer s H vs Q E hr ⟨as, sh, ls, B, hR, g, hv, q⟩ => ⟨_, body cdv A outer s H E hr as (sh, ls) hR, B, H, B, sta_start g hv, ?_⟩
  refine ⟨fun _ _ _ _ e => e.elim, fun _ _ _ _ e => e.elim, fun sh' ls' v fp B' H' e x o => ?_, fun _ _ _ _ e => e.elim, fun _ _ _ _ e => e.elim⟩
  cases e
  exact q v fp B' H' x o
end
end Ab
set_option Elab.async false
set_option linter.all false
set_option maxRecDepth 100000
set_option maxHeartbeats 1000000
namespace Ab
open PySem L2

/-! ### rows by their order -/
/-- as lists are: the first place that differs decides, then the length -/
def lexlt : List Int → List Int → Bool
  | _, [] => false
  | [], _ :: _ => true
  | a :: as, b :: bs => if a = b then lexlt as bs else decide (a < b)
theorem lex_first : ∀ (ns ms : List Int) (e r : Nat → Bool) (d : Nat), (∀ j (h1 : j < ns.length) (h2 : j < ms.length), e (d + j) = (ns[j] == ms[j])) → (∀ j (h1 : j < ns.length) (h2 : j < ms.length), r (d + j) = decide (ns[j] < ms[j])) →
    SeqAt.firstLt e r (decide (ns.length < ms.length)) ((List.range (min ns.length ms.length)).map (d + ·)) = lexlt ns ms
  | [], [], e, r, d, _, _ => by simp [SeqAt.firstLt, lexlt]
  | [], _ :: _, e, r, d, _, _ => by simp [SeqAt.firstLt, lexlt]
  | _ :: _, [], e, r, d, _, _ => by simp [SeqAt.firstLt, lexlt]
  | a :: as, b :: bs, e, r, d, he, hr => by
    have q : min (a :: as).length (b :: bs).length = min as.length bs.length + 1 := by simp
    rw [q, List.range_succ_eq_map, List.map_cons, List.map_map]
    have h0 : e d = (a == b) := by have := he 0 (by simp) (by simp); simpa using this
    have h1 : r d = decide (a < b) := by have := hr 0 (by simp) (by simp); simpa using this
    show (if e (d + 0) = true then _ else r (d + 0)) = _
    rw [Nat.add_zero, h0, h1]
    unfold lexlt
    by_cases hab : a = b
    · rw [if_pos (by simpa using hab), if_pos hab]
      have ih := lex_first as bs e r (d + 1) (fun j k1 k2 => by
        have := he (j + 1) (by simpa using k1) (by simpa using k2)
        simpa [Nat.add_assoc, Nat.add_comm 1 j] using this) (fun j k1 k2 => by
        have := hr (j + 1) (by simpa using k1) (by simpa using k2)
        simpa [Nat.add_assoc, Nat.add_comm 1 j] using this)
      rw [← ih]
      have e1 : decide ((a :: as).length < (b :: bs).length) = decide (as.length < bs.length) := by simp
      rw [e1]
      congr 1
      apply List.map_congr_left
      intro x _
      show d + (x + 1) = d + 1 + x
      omega
    · rw [if_neg (by simpa using hab), if_neg hab]
/-- one row below another, in the machine -/
theorem rows_lt {A : Around} {s : Shared} {p q : Addr} {us ws : List Value} {ns ms : List Int} (hp : s.heap.IsList p us.toArray) (hq : s.heap.IsList q ws.toArray) (hn : Vals (ns.map V.int) us) (hm : Vals (ms.map V.int) ws) (hu : A.units < cLine) :
    SeqAt.RcLt A s (.ref p) (.ref q) (lexlt ns ms) := by
  have l1 : ns.length = us.length := by have := hn.length; rwa [List.length_map] at this
  have l2 : ms.length = ws.length := by have := hm.length; rwa [List.length_map] at this
  have at1 : ∀ j (h : j < us.length), ∃ t, us[j] = .int (ns[j]'(by omega)) t := fun j h => by
    obtain ⟨u, k1, k2⟩ := hn.get (i := j) (x := .int (ns[j]'(by omega))) (by simp [l1, h])
    rw [List.getElem?_eq_getElem h] at k1
    cases k1
    exact k2
  have at2 : ∀ j (h : j < ws.length), ∃ t, ws[j] = .int (ms[j]'(by omega)) t := fun j h => by
    obtain ⟨u, k1, k2⟩ := hm.get (i := j) (x := .int (ms[j]'(by omega))) (by simp [l2, h])
    rw [List.getElem?_eq_getElem h] at k1
    cases k1
    exact k2
  have key := SeqAt.RcLt.lists (e := fun j => (ns[j]?).getD 0 == (ms[j]?).getD 0) (r := fun j => decide ((ns[j]?).getD 0 < (ms[j]?).getD 0)) hp hq hu (fun j h1 h2 => by
      simp only [List.size_toArray] at h1 h2
      obtain ⟨t, e1⟩ := at1 j h1
      obtain ⟨t', e2⟩ := at2 j h2
      simp only [List.getElem_toArray, e1, e2]
      rw [List.getElem?_eq_getElem (show j < ns.length by omega), List.getElem?_eq_getElem (show j < ms.length by omega)]
      exact SeqAt.EqAt.int_int _ _ _ _) (fun j h1 h2 _ => by
      simp only [List.size_toArray] at h1 h2
      obtain ⟨t, e1⟩ := at1 j h1
      obtain ⟨t', e2⟩ := at2 j h2
      simp only [List.getElem_toArray, e1, e2]
      rw [List.getElem?_eq_getElem (show j < ns.length by omega), List.getElem?_eq_getElem (show j < ms.length by omega)]
      exact fun prog w E Q h => richCompare_gives (op := .Lt) (typeIs_int s _ t) (typeIs_int s _ t') F.slot_int_lt F.entry_int_lt (F.args_int_lt_2 _ _) (gives_int_lt _ _ t t') (fun x => nomatch x) h)
  have fin := lex_first ns ms (fun j => (ns[j]?).getD 0 == (ms[j]?).getD 0) (fun j => decide ((ns[j]?).getD 0 < (ms[j]?).getD 0)) 0 (fun j h1 h2 => by simp [h1, h2]) (fun j h1 h2 => by simp [h1, h2])
  have e0 : (List.range (min ns.length ms.length)).map (0 + ·) = List.range (min ns.length ms.length) := by simp
  rw [e0] at fin
  simp only [List.size_toArray] at key
  rw [← l1, ← l2, fin] at key
  exact key

/-! ### min of a list of rows -/
/-- the place of the first least one -/
def least (lt : Nat → Nat → Bool) : Nat → Nat
  | 0 => 0
  | n + 1 => if lt (n + 1) (least lt n) then n + 1 else least lt n
section
variable {prog : Program} {w : World} {A : Around}
/-- the built-in's own loop, where what is compared lies in the heap -/
theorem min_turns {R : Result → Shared → Prop} {I : Addr} {fp wr : List Addr} {n : Nat} {P : Nat → Value → Prop} {Stt : Nat → Heap → Prop} (W : Walks prog w A.in1 I fp wr n P Stt) (lt : Nat → Nat → Bool) (Z : Addr) (nz : Z ∉ fp) (Lays : Heap → Prop)
    (stay : ∀ h h' : Heap, Lays h → (∀ b o, b ∉ wr → b ≠ Z → h.get? b = some o → h'.get? b = some o) → Lays h')
    (cmp : ∀ i j u v (s : Shared) (Q : Value → Shared → Prop) (E : Value → Shared → Prop), Lays s.heap → P i u → P j v → Q (.bool (lt i j)) s → wpAny (model prog w) A.in1 (richCompare .Lt u v) Q E s) :
    ∀ (left got : Nat) (s : Shared) (best : Value) (c : Nat), got + 1 + left = n → Lays s.heap → Stt (got + 1) s.heap → P (least lt got) best →
      s.heap.get? Z = some { cls := .type "list", dict := none, data := .seq #[best, best] c, slots := #[] } →
      (∀ v h' tk, P (least lt (n - 1)) v → (∀ b o, b ∉ wr → b ≠ Z → s.heap.get? b = some o → h'.get? b = some o) → R (.ok (.ret v)) { s with heap := h', toks := tk }) →
      codeAny (model prog w) A (.builtin "min.loop" ⟨[.ref I, .none, .ref Z], []⟩) R s := by
  have nw : Z ∉ wr := fun h => nz (W.sub _ h)
  have nm : (toString "min" ++ toString ".loop" : String) = "min.loop" := by decide
  intro left
  induction left with
  | zero =>
    intro got s best c hn _ st hb hZ hR
    refine codeAny_builtin F.entry_min_loop ?_
    rw [Around.under_plainId F.plain_min_loop _]
    show wpAny _ A.in1 (seqItems? (.ref Z) >>= _) _ _ s
    refine wpAny_bind (wpAny_seqItems hZ rfl ?_)
    show wpAny _ A.in1 (tryCatch (pyNext (.ref I)) _ >>= _) _ _ s
    have eN : n = got + 1 := by omega
    refine wpAny_bind (wpAny_tryCatch (W.done s _ _ (by rw [eN]; exact st) fun h' tk kp => ?_))
    have hZ' := kp Z _ nw hZ
    show wpAny _ A.in1 (updateSeq Z (fun _ => #[]) >>= _) _ _ _
    refine wpAny_bind (wpAny_updateSeq hZ' rfl (wpAny_bind (wpAny_letGo (wpAny_pure (hR best _ tk ?_ ?_)))))
    · have : n - 1 = got := by omega
      rw [this]; exact hb
    · intro b o hbw hbZ q
      exact (Heap.get?_update_other _ _ (Ne.symm hbZ)).trans (kp b o hbw q)
  | succ left ih =>
    intro got s best c hn ly st hb hZ hR
    refine codeAny_builtin F.entry_min_loop ?_
    rw [Around.under_plainId F.plain_min_loop _]
    show wpAny _ A.in1 (seqItems? (.ref Z) >>= _) _ _ s
    refine wpAny_bind (wpAny_seqItems hZ rfl ?_)
    show wpAny _ A.in1 (tryCatch (pyNext (.ref I)) _ >>= _) _ _ s
    refine wpAny_bind (wpAny_tryCatch (W.item (got + 1) s _ _ (by omega) st fun v h' tk hv st' kp => ?_))
    have hZ' := kp Z _ nw hZ
    have ly' : Lays h' := stay _ _ ly fun b o hw _ q => kp b o hw q
    show wpAny _ A.in1 (tryCatch (holding [v, v] (richCompare .Lt v best >>= _)) _ >>= _) _ _ _
    refine wpAny_bind (wpAny_tryCatch (wpAny_holding (wpAny_bind (cmp (got + 1) (least lt got) v best _ _ _ ly' hv hb ?_))))
    refine wpAny_bind (wpAny_holding (wpAny_truthy_bool (wpAny_bind (wpAny_letGo (wpAny_pure ?_)))))
    cases hl : lt (got + 1) (least lt got) with
    | true =>
      have eb : least lt (got + 1) = got + 1 := by show (if _ then _ else _) = _; rw [hl]; rfl
      simp only [if_true]
      refine wpAny_bind (wpAny_updateSeq hZ' rfl (wpAny_bind (wpAny_letGo ?_)))
      rw [nm]
      refine wpAny_pure ⟨plainId_quiet F.plain_min_loop _, ih (got + 1) _ v _ (by omega) ?_ (W.frame _ _ _ st' ?_) (by rw [eb]; exact hv) (Heap.get?_update_self _ hZ' rfl) ?_⟩
      · exact stay _ _ ly' fun b o _ hz q => (Heap.get?_update_other _ _ (Ne.symm hz)).trans q
      · intro b hbf o q
        exact (Heap.get?_update_other _ _ (fun z : Z = b => nz (z ▸ hbf))).trans q
      · intro v' h'' tk'' hv' kp''
        exact hR v' h'' tk'' hv' fun b o hbw hbZ q => kp'' b o hbw hbZ ((Heap.get?_update_other _ _ (Ne.symm hbZ)).trans (kp b o hbw q))
    | false =>
      have eb : least lt (got + 1) = least lt got := by show (if _ then _ else _) = _; rw [hl]; rfl
      simp only [Bool.false_eq_true, if_false]
      refine wpAny_bind (wpAny_letGo ?_)
      rw [nm]
      refine wpAny_pure ⟨plainId_quiet F.plain_min_loop _, ih (got + 1) _ best c (by omega) ly' st' (by rw [eb]; exact hb) hZ' ?_⟩
      intro v' h'' tk'' hv' kp''
      exact hR v' h'' tk'' hv' fun b o hbw hbZ q => kp'' b o hbw hbZ (kp b o hbw q)
theorem call_min_at {E : Value → Shared → Prop} {s : Shared} {l : Addr} {its : Array Value} {Q : Value → Shared → Prop} (hh : A.handled = none) (hl : s.heap.IsList l its) (hne : 0 < its.size) (lt : Nat → Nat → Bool) (Lays : Heap → Prop)
    (ly : Lays s.heap) (stay : ∀ h h' : Heap, Lays h → (∀ b o, b < s.heap.objs.size → h.get? b = some o → h'.get? b = some o) → Lays h')
    (cmp : ∀ i j u v (s : Shared) (Q : Value → Shared → Prop) (E : Value → Shared → Prop), Lays s.heap → its[i]? = some u → its[j]? = some v → Q (.bool (lt i j)) s → wpAny (model prog w) A.in1 (richCompare .Lt u v) Q E s)
    (h : ∀ v h' tk, its[least lt (its.size - 1)]? = some v → (∀ b o, s.heap.get? b = some o → h'.get? b = some o) → Q v { s with heap := h', toks := tk }) :
    wpAny (model prog w) A (call (.builtin "min") [.ref l]) Q E s := by
  have nm : (toString "min" ++ toString ".loop" : String) = "min.loop" := by decide
  have hlt : l < s.heap.objs.size := by obtain ⟨_, q, _⟩ := hl; exact Heap.lt_size q
  refine call_function_tree F.kind_min F.plain_min F.entry_min (F.args_min1 _) ?_
  show wpAny _ A.in1 (Builtin.Builtins.bindParams "min" ["key", "default"] 0 ⟨[], []⟩ >>= _) _ _ s
  refine wpAny_bind (wpAny_of_eq (show Builtin.Builtins.bindParams "min" ["key", "default"] 0 ⟨[], []⟩ = pure [none, none] from rfl) ?_)
  refine wpAny_bind (wpAny_pure (wpAny_bind (wpAny_pyIter_list hl (wpAny_bind (wpAny_newObj_type ?_)))))
  let h1 := s.heap.push { cls := .type "list_iterator", data := .fields #[.ref l, .int 0 0] }
  have z1 : h1.objs.size = s.heap.objs.size + 1 := Heap.size_push ..
  let h2 := h1.push { cls := .type "list", data := .seq #[] }
  have W : Walks prog w A.in1 s.heap.objs.size [s.heap.objs.size, l] [s.heap.objs.size] its.size (fun i v => its[i]? = some v) _ := Walks.list (A := A.in1) hh s.heap.objs.size l (Nat.ne_of_lt hlt) its
  have nz : h1.objs.size ∉ [s.heap.objs.size, l] := fun hm => by
    rw [z1] at hm
    rcases List.mem_cons.mp hm with q | q
    · exact absurd q (Nat.succ_ne_self _)
    · exact absurd (List.mem_singleton.mp q) (Nat.ne_of_gt (Nat.lt_succ_of_lt hlt))
  have st0 : h2.IsListIter s.heap.objs.size l 0 ∧ h2.IsList l its := ⟨⟨_, Heap.get?_push_of_some _ (Heap.get?_push_size _ rfl), rfl, rfl⟩, (hl.push _).push _⟩
  rw [nm]
  refine wpAny_pure ⟨plainId_quiet F.plain_min_loop _, ?_⟩
  have hZ : h2.get? h1.objs.size = some { cls := .type "list", dict := none, data := .seq #[] 0, slots := #[] } := Heap.get?_push_size _ rfl
  have nw : h1.objs.size ∉ [s.heap.objs.size] := by simp [z1]
  refine codeAny_builtin F.entry_min_loop ?_
  rw [Around.under_plainId F.plain_min_loop _]
  show wpAny _ A.in1 (seqItems? (.ref h1.objs.size) >>= _) _ _ { s with heap := h2 }
  refine wpAny_bind (wpAny_seqItems hZ rfl ?_)
  show wpAny _ A.in1 (tryCatch (pyNext (.ref s.heap.objs.size)) _ >>= _) _ _ { s with heap := h2 }
  refine wpAny_bind (wpAny_tryCatch (W.item 0 { s with heap := h2 } _ _ hne st0 fun v h' tk hv st' kp => ?_))
  have hZ' := kp _ _ nw hZ
  have old : ∀ b o, s.heap.get? b = some o → h'.get? b = some o := fun b o q => kp b o (by simp; exact Nat.ne_of_lt (Heap.lt_size q)) (Heap.get?_push_of_some _ (Heap.get?_push_of_some _ q))
  show wpAny _ A.in1 (updateSeq h1.objs.size (fun _ => #[v, v]) >>= _) _ _ _
  refine wpAny_bind (wpAny_updateSeq hZ' rfl ?_)
  rw [nm]
  have stay' : ∀ g g' : Heap, Lays g → (∀ b o, b ∉ [s.heap.objs.size] → b ≠ h1.objs.size → g.get? b = some o → g'.get? b = some o) → Lays g' := fun g g' x k => stay g g' x fun b o hb q => k b o (by simp; exact Nat.ne_of_lt hb) (by rw [z1]; exact Nat.ne_of_lt (Nat.lt_succ_of_lt hb)) q
  refine wpAny_pure ⟨plainId_quiet F.plain_min_loop _, min_turns W lt h1.objs.size nz Lays stay' cmp (its.size - 1) 0 _ v _ (by omega) ?_ (W.frame _ _ _ st' ?_) hv (Heap.get?_update_self _ hZ' rfl) ?_⟩
  · exact stay' h' _ (stay s.heap h' ly fun b o _ q => old b o q) fun b o _ hz q => (Heap.get?_update_other _ _ (Ne.symm hz)).trans q
  · intro b hbf o q
    exact (Heap.get?_update_other _ _ (fun z : h1.objs.size = b => nz (z ▸ hbf))).trans q
  · intro v' h'' tk'' hv' kp''
    refine h v' h'' tk'' hv' fun b o q => kp'' b o (by simp; exact Nat.ne_of_lt (Heap.lt_size q)) (by rw [z1]; exact Nat.ne_of_lt (Nat.lt_succ_of_lt (Heap.lt_size q))) ?_
    exact (Heap.get?_update_other _ _ (by rw [z1]; exact Ne.symm (Nat.ne_of_lt (Nat.lt_succ_of_lt (Heap.lt_size q))))).trans (old b o q)
end
end Ab
set_option Elab.async false
set_option linter.all false
set_option maxRecDepth 100000
set_option maxHeartbeats 1000000
namespace Ab
open PySem L2

/-! ### min of rows, over the layer -/
def minR (rs : List (List Int)) : List Int := rs.getD (least (fun i j => lexlt (rs.getD i []) (rs.getD j [])) (rs.length - 1)) []
def rMinR : List V → Hp → VK → Prop := fun vs H Q => ∃ (B : Hp) (a : Addr) (xs : List V) (rs : List (List Int)), vs = [.ref a] ∧ Gr B H ∧ B a = some (.lst xs) ∧ Reps B xs (rs.map AV.il) ∧ rs ≠ [] ∧ ∀ x, (AV.il (minR rs)).p B x → Q x H
theorem least_le (lt : Nat → Nat → Bool) : ∀ n, least lt n ≤ n
  | 0 => Nat.le_refl _
  | n + 1 => by
    show (if _ then _ else _) ≤ _
    split
    · exact Nat.le_refl _
    · exact Nat.le_succ_of_le (least_le lt n)
section
variable {X : Cx}
theorem cr_minR (hu : X.A.units + 64 < cLine) (hc : X.calm = true) : CallR X (.builtin "min") rMinR := by
  intro pins s σ H vs us Q I r h
  obtain ⟨B, a, xs, rs, rfl, g, ha, hr, hne, q⟩ := h
  obtain ⟨its, rv, hl, _⟩ := I.list (SqL.of (K := X.K) (g _ _ ha))
  rw [Vals.ref1 r]
  have n1 : xs.length = rs.length := by rw [hr.length, List.length_map]
  have n2 : xs.length = its.length := rv.length
  have fact : ∀ (j : Nat) u rw', its.toArray[j]? = some u → rs[j]? = some rw' → ∃ p ws, u = .ref p ∧ s.heap.IsList p ws.toArray ∧ Vals (rw'.map V.int) ws ∧ p < s.heap.objs.size ∧ xs[j]? = some (.ref p) ∧ B p = some (.lst (rw'.map V.int)) := fun j u r' hu hr' => by
    obtain ⟨x, k1, p, ys, rfl, k2, k3⟩ := hr.get (i := j) (a := AV.il r') (by rw [List.getElem?_map, hr']; rfl)
    rw [reps_ints k3] at k2
    obtain ⟨v, m1, m2⟩ := rv.get k1
    cases m2
    have : its.toArray[j]? = its[j]? := by simp
    rw [this, m1] at hu
    cases hu
    obtain ⟨ws, w1, w2, _⟩ := I.list (SqL.of (K := X.K) (g _ _ k2))
    exact ⟨p, ws, rfl, w2.isList, w1, I.hok.lt (g _ _ k2), k1, k2⟩
  have hpos : 0 < rs.length := List.length_pos_iff.mpr hne
  refine call_min_at (I.ok.hd hc) hl.isList (by simp; omega) (fun i j => lexlt (rs.getD i []) (rs.getD j []))
    (fun h => ∀ (j : Nat) u r', its.toArray[j]? = some u → rs[j]? = some r' → ∃ p ws, u = .ref p ∧ h.IsList p ws.toArray ∧ Vals (r'.map V.int) ws ∧ p < s.heap.objs.size)
    (fun j u r' h1 h2 => let ⟨p, ws, k1, k2, k3, k4, _⟩ := fact j u r' h1 h2; ⟨p, ws, k1, k2, k3, k4⟩)
    (fun h h' ly kp j u r' h1 h2 => let ⟨p, ws, k1, k2, k3, k4⟩ := ly j u r' h1 h2; ⟨p, ws, k1, k2.at fun o e => kp p o k4 e, k3, k4⟩) ?_ ?_
  · intro i j u v s' Q' E' ly h1 h2 hq
    have b1 : i < rs.length := by have := (Array.getElem?_eq_some_iff.mp h1).1; simp at this; omega
    have b2 : j < rs.length := by have := (Array.getElem?_eq_some_iff.mp h2).1; simp at this; omega
    obtain ⟨p, ws, rfl, k2, k3, _⟩ := ly i u rs[i] h1 (List.getElem?_eq_getElem b1)
    obtain ⟨p', ws', rfl, k2', k3', _⟩ := ly j v rs[j] h2 (List.getElem?_eq_getElem b2)
    have e1 : rs.getD i [] = rs[i] := by simp [List.getD, b1]
    have e2 : rs.getD j [] = rs[j] := by simp [List.getD, b2]
    rw [e1, e2] at hq
    exact rows_lt k2 k2' k3 k3' (by show X.A.units + 1 < cLine; omega) X.prog X.w E' Q' hq
  · intro v h' tk hv kp
    have sz : its.toArray.size - 1 = rs.length - 1 := by simp; omega
    rw [sz] at hv
    have lt : least (fun i j => lexlt (rs.getD i []) (rs.getD j [])) (rs.length - 1) < rs.length := by
      have := least_le (fun i j => lexlt (rs.getD i []) (rs.getD j [])) (rs.length - 1)
      omega
    obtain ⟨p, ws, rfl, _, _, _, k1, k2⟩ := fact _ v _ hv (List.getElem?_eq_getElem lt)
    refine ⟨.ref p, H, I.kept kp, rfl, q (.ref p) ⟨p, _, rfl, k2, ?_⟩⟩
    have e : minR rs = rs[least (fun i j => lexlt (rs.getD i []) (rs.getD j [])) (rs.length - 1)] := by
      unfold minR
      rw [List.getD_eq_getElem?_getD, List.getElem?_eq_getElem lt]
      rfl
    rw [e]
    exact reps_of_ints _
theorem r_minR {rs : List (List Int)} (hne : rs ≠ []) : RCA rMinR [.ll rs] (.il (minR rs)) := fun vs B H Q g h q => by
  obtain ⟨v, rfl, a, xs, rfl, h1, h2⟩ := reps1 h
  exact ⟨B, a, xs, rs, rfl, g, h1, h2, hne, fun x hx => q x B H (.refl g) hx⟩

/-! ### data, compared -/
theorem sqt_gr {K : PySem.W.Frag} {H H' : Hp} {a : Addr} {xs : List V} (e : Gr H H') (h : SqT K H a xs) : SqT K H' a xs := by
  rcases h with (h | ⟨o, h⟩) | h
  · exact .inl (.inl (e _ _ h))
  · exact .inl (.inr ⟨o, e _ _ h⟩)
  · exact .inr h
mutual
theorem dp_gr {K : PySem.W.Frag} {H H' : Hp} (e : Gr H H') : ∀ (d : PyData) (v : V), Dp K H v d → Dp K H' v d
  | .none, _, h => by cases h; exact .non
  | .bool b, _, h => by cases h; exact .bl b
  | .int i, _, h => by cases h; exact .int i
  | .str x, _, h => by cases h; exact .str x
  | .list ds, _, h => by cases h with | lst h1 h2 => exact .lst (e.sq h1) (dps_gr e ds _ h2)
  | .tuple ds, _, h => by cases h with | tup h1 h2 => exact .tup (sqt_gr e h1) (dps_gr e ds _ h2)
  | .dict _, _, h => by cases h
theorem dps_gr {K : PySem.W.Frag} {H H' : Hp} (e : Gr H H') : ∀ (ds : List PyData) (vs : List V), DpAll K H vs ds → DpAll K H' vs ds
  | [], _, h => by cases h; exact .nil
  | d :: ds, _, h => by cases h with | cons h1 h2 => exact .cons (dp_gr e d _ h1) (dps_gr e ds _ h2)
end
/-- the abstract value is plain data -/
def IsD (K : PySem.W.Frag) (a : AV) (d : PyData) : Prop := ∀ B v, a.p B v → Dp K B v d
theorem isd_int {K : PySem.W.Frag} (i : Int) : IsD K (.int i) (.int i) := fun B v h => by cases h; exact .int i
theorem isd_bl {K : PySem.W.Frag} (b : Bool) : IsD K (.bl b) (.bool b) := fun B v h => by cases h; exact .bl b
theorem isd_non {K : PySem.W.Frag} : IsD K .non .none := fun B v h => by cases h; exact .non
theorem reps_dp {K : PySem.W.Frag} {α : Type} {f : α → AV} {g : α → PyData} (hf : ∀ x, IsD K (f x) (g x)) {B : Hp} : ∀ (l : List α) (xs : List V), Reps B xs (l.map f) → DpAll K B xs (l.map g)
  | [], _, h => by cases h; exact .nil
  | x :: l, _, h => by cases h with | cons h1 h2 => exact .cons (hf x _ _ h1) (reps_dp hf l _ h2)
theorem isd_map {K : PySem.W.Frag} {α : Type} {f : α → AV} {g : α → PyData} (hf : ∀ x, IsD K (f x) (g x)) (l : List α) : IsD K (.lst (l.map f)) (.list (l.map g)) := fun B v h => by
  obtain ⟨a, xs, rfl, h1, h2⟩ := h
  exact .lst (SqL.of h1) (reps_dp hf l xs h2)
theorem isd_mapR {K : PySem.W.Frag} {α : Type} {f : α → AV} {g : α → PyData} (hf : ∀ x, IsD K (f x) (g x)) (l : List α) : IsD K (.rdo K (l.map f)) (.list (l.map g)) := fun B v h => by
  obtain ⟨a, xs, rfl, h1, h2⟩ := h
  exact .lst h1 (reps_dp hf l xs h2)
abbrev dI (ns : List Int) : PyData := .list (ns.map PyData.int)
abbrev dR (rs : List (List Int)) : PyData := .list (rs.map dI)
theorem isd_il {K : PySem.W.Frag} (ns : List Int) : IsD K (.il ns) (dI ns) := isd_map isd_int ns
theorem isd_ll {K : PySem.W.Frag} (rs : List (List Int)) : IsD K (.ll rs) (dR rs) := isd_map isd_il rs
theorem isd_nil {K : PySem.W.Frag} : IsD K (.lst []) (.list []) := isd_il []
theorem lay_int : ∀ ns : List Int, PyData.canLayAll0 (ns.map PyData.int) = true
  | [] => by simp [PyData.canLayAll0]
  | n :: ns => by simp [PyData.canLayAll0, PyData.canLay0, lay_int ns]
theorem depth_int : ∀ ns : List Int, PyData.depthAll (ns.map PyData.int) ≤ 1
  | [] => by simp [PyData.depthAll]
  | n :: ns => by
    have := depth_int ns
    simp only [List.map_cons, PyData.depthAll, PyData.depth]
    omega
theorem shaped_il (ns : List Int) : SeqAt.shaped (dI ns) = true := by
  show ((dI ns).canLay0 && decide ((dI ns).depth ≤ 64)) = true
  rw [Bool.and_eq_true]
  refine ⟨by simp only [PyData.canLay0]; exact lay_int ns, decide_eq_true ?_⟩
  have := depth_int ns
  simp only [PyData.depth]
  omega
theorem lay_il : ∀ rs : List (List Int), PyData.canLayAll0 (rs.map dI) = true
  | [] => by simp [PyData.canLayAll0]
  | r :: rs => by
    have := SeqAt.canLay_of_shaped (shaped_il r)
    simp [PyData.canLayAll0, this, lay_il rs]
theorem depth_il : ∀ rs : List (List Int), PyData.depthAll (rs.map dI) ≤ 2
  | [] => by simp [PyData.depthAll]
  | r :: rs => by
    have h1 := depth_il rs
    have h2 := depth_int r
    simp only [List.map_cons, PyData.depthAll, PyData.depth]
    omega
theorem shaped_ll (rs : List (List Int)) : SeqAt.shaped (dR rs) = true := by
  show ((dR rs).canLay0 && decide ((dR rs).depth ≤ 64)) = true
  rw [Bool.and_eq_true]
  refine ⟨by simp only [PyData.canLay0]; exact lay_il rs, decide_eq_true ?_⟩
  have := depth_il rs
  simp only [PyData.depth]
  omega
theorem eqv_map {α : Type} [DecidableEq α] {g : α → PyData} (h : ∀ x y, PyData.eqv (g x) (g y) = decide (x = y)) : ∀ l m : List α, PyData.eqvAll (l.map g) (m.map g) = decide (l = m)
  | [], [] => by simp [PyData.eqvAll]
  | [], _ :: _ => by simp [PyData.eqvAll]
  | _ :: _, [] => by simp [PyData.eqvAll]
  | x :: l, y :: m => by
    rw [List.map_cons, List.map_cons, PyData.eqvAll, h, eqv_map h l m]
    by_cases h1 : x = y <;> by_cases h2 : l = m <;> simp [h1, h2]
theorem eqv_il (ns ms : List Int) : PyData.eqv (dI ns) (dI ms) = decide (ns = ms) := by
  show PyData.eqv (.list _) (.list _) = _
  rw [PyData.eqv]
  exact eqv_map (fun x y => by rw [PyData.eqv]; exact Bool.beq_eq_decide_eq x y) ns ms
theorem eqv_ll (rs qs : List (List Int)) : PyData.eqv (dR rs) (dR qs) = decide (rs = qs) := by
  show PyData.eqv (.list _) (.list _) = _
  rw [PyData.eqv]
  exact eqv_map eqv_il rs qs
variable {e e1 e2 : Expr} {τ : Tau} {a b : AV} {pos : Pos} {d d' : PyData} {r r' : List Int}
theorem r_eqD {K : PySem.W.Frag} (h1 : IsD K a d) (h2 : IsD K b d') (s1 : SeqAt.shaped d = true) (s2 : SeqAt.shaped d' = true) : R2A (rEqD K) a b (.bl (PyData.eqv d d')) := fun x y B H Q g hx hy q =>
  ⟨d, d', dp_gr g d x (h1 B x hx), dp_gr g d' y (h2 B y hy), s1, s2, q _ B H (.refl g) rfl⟩
theorem r_neD {K : PySem.W.Frag} (h1 : IsD K a d) (h2 : IsD K b d') (s1 : SeqAt.shaped d = true) (s2 : SeqAt.shaped d' = true) : R2A (rNeD K) a b (.bl (!PyData.eqv d d')) := fun x y B H Q g hx hy q =>
  ⟨d, d', dp_gr g d x (h1 B x hx), dp_gr g d' y (h2 B y hy), s1, s2, q _ B H (.refl g) rfl⟩
theorem c_eqD (hu : X.A.units + 64 < cLine) (h1 : CE X e1 τ a) (h2 : CE X e2 τ b) (i1 : IsD X.K a d) (i2 : IsD X.K b d') (s1 : SeqAt.shaped d = true) (s2 : SeqAt.shaped d' = true) : CE X (.Compare e1 [.Eq] [e2] pos) τ (.bl (PyData.eqv d d')) := ce_op (pe_cmpR (op_eqD hu) h1 h2 (nomark _)) (r_eqD i1 i2 s1 s2)
theorem c_neD (hu : X.A.units + 64 < cLine) (h1 : CE X e1 τ a) (h2 : CE X e2 τ b) (i1 : IsD X.K a d) (i2 : IsD X.K b d') (s1 : SeqAt.shaped d = true) (s2 : SeqAt.shaped d' = true) : CE X (.Compare e1 [.NotEq] [e2] pos) τ (.bl (!PyData.eqv d d')) := ce_op (pe_cmpR (op_neD hu) h1 h2 (nomark _)) (r_neD i1 i2 s1 s2)
theorem ct_eqD (hu : X.A.units + 64 < cLine) (h1 : CE X e1 τ a) (h2 : CE X e2 τ b) (i1 : IsD X.K a d) (i2 : IsD X.K b d') (s1 : SeqAt.shaped d = true) (s2 : SeqAt.shaped d' = true) : CT X (.Compare e1 [.Eq] [e2] pos) τ (PyData.eqv d d') := ct_op (pt_cmpR (op_eqD hu) h1 h2 (nomark _)) (r_eqD i1 i2 s1 s2)
theorem ct_neD (hu : X.A.units + 64 < cLine) (h1 : CE X e1 τ a) (h2 : CE X e2 τ b) (i1 : IsD X.K a d) (i2 : IsD X.K b d') (s1 : SeqAt.shaped d = true) (s2 : SeqAt.shaped d' = true) : CT X (.Compare e1 [.NotEq] [e2] pos) τ (!PyData.eqv d d') := ct_op (pt_cmpR (op_neD hu) h1 h2 (nomark _)) (r_neD i1 i2 s1 s2)
theorem c_eqL (hu : X.A.units + 64 < cLine) (h1 : CE X e1 τ (.il r)) (h2 : CE X e2 τ (.il r')) : CE X (.Compare e1 [.Eq] [e2] pos) τ (.bl (decide (r = r'))) := (c_eqD hu h1 h2 (isd_il r) (isd_il r') (shaped_il r) (shaped_il r')).is (by rw [eqv_il])
theorem c_neL (hu : X.A.units + 64 < cLine) (h1 : CE X e1 τ (.il r)) (h2 : CE X e2 τ (.il r')) : CE X (.Compare e1 [.NotEq] [e2] pos) τ (.bl (!decide (r = r'))) := (c_neD hu h1 h2 (isd_il r) (isd_il r') (shaped_il r) (shaped_il r')).is (by rw [eqv_il])
theorem ct_eqL (hu : X.A.units + 64 < cLine) (h1 : CE X e1 τ (.il r)) (h2 : CE X e2 τ (.il r')) : CT X (.Compare e1 [.Eq] [e2] pos) τ (decide (r = r')) := (ct_eqD hu h1 h2 (isd_il r) (isd_il r') (shaped_il r) (shaped_il r')).is (eqv_il r r')
theorem ct_neL (hu : X.A.units + 64 < cLine) (h1 : CE X e1 τ (.il r)) (h2 : CE X e2 τ (.il r')) : CT X (.Compare e1 [.NotEq] [e2] pos) τ (!decide (r = r')) := (ct_neD hu h1 h2 (isd_il r) (isd_il r') (shaped_il r) (shaped_il r')).is (by rw [eqv_il])

/-! ### rows.index(row) -/
theorem idx_first {α : Type} [BEq α] [LawfulBEq α] {r : α} : ∀ (rs : List α) (j : Nat), j < rs.idxOf r → rs[j]? ≠ some r
  | [], j, h, _ => by simp at h
  | x :: rs, 0, h, q => by
    have e : x = r := by simpa using q
    rw [List.idxOf_cons, e] at h
    simp at h
  | x :: rs, j + 1, h, q => by
    rw [List.idxOf_cons] at h
    by_cases hx : (x == r) = true
    · rw [hx] at h; simp at h
    · simp only [Bool.not_eq_true] at hx
      rw [hx] at h
      exact idx_first rs j (by simpa using h) (by simpa using q)
theorem c_indexR {rs : List (List Int)} {p pa : Pos} (hu : X.A.units + 65 < cLine) (h1 : CE X e1 τ (.ll rs)) (h2 : CE X e2 τ (.il r)) (hr : r ∈ rs)
    (pe : ∀ (to : TE) (t : TA), MtR X "list.index" (rIndexD X.K) → PE X e1 to → PA X [e2] t → PE X (.Call (.Attribute e1 "index" pa) [e2] [] p) (tBM X.K "list" (rIndexD X.K) to t) := by exact fun _ _ hm h1 h2 => pe_bm PySem.F.plainAttrs_list PySem.F.slot_list_index PySem.F.type_list_index hm h1 h2)
    (hst : starEach [e2] X.env = (false, eval e2 X.env) :: starEach [] X.env := by rfl) : CE X (.Call (.Attribute e1 "index" pa) [e2] [] p) τ (.int (rs.idxOf r)) :=
  ce_of (pe _ _ (mt_indexD hu) h1 (ca_cons h2 ca_nil hst)) fun F0 F B σ H Q S q => ⟨F0, F, B, S, fun v B1 H1 x1 k1 => by
    obtain ⟨a, xs, rfl, m1, m2⟩ := id k1
    refine ⟨.inl ⟨rfl, xs, SqL.of (x1.s _ _ m1)⟩, F0, F, B1, S.step x1, fun vs B2 H2 x2 k2 => ?_⟩
    obtain ⟨w, rfl, k3⟩ := reps1 k2
    have hlt : rs.idxOf r < rs.length := List.idxOf_lt_length_iff.mpr hr
    have hat : rs[rs.idxOf r]? = some r := by rw [List.getElem?_eq_getElem hlt, List.getElem_idxOf hlt]
    refine ⟨a, w, dI r, rs.map dI, rs.idxOf r, dI r, rfl, rfl, dp_gr x2.s _ _ (dp_gr x2.b _ _ (isd_ll (K := X.K) rs B1 _ k1)), dp_gr x2.s _ _ (isd_il (K := X.K) r B2 _ k3), shaped_ll rs, shaped_il r, by rw [List.getElem?_map, hat]; rfl, by rw [eqv_il]; simp, fun j z hj hz => ?_, q _ B2 H2 (x1.trans x2) rfl⟩
    rw [List.getElem?_map] at hz
    have hj2 : j < rs.length := by omega
    rw [List.getElem?_eq_getElem hj2] at hz
    simp at hz
    rw [← hz, eqv_il]
    refine decide_eq_false fun z => ?_
    exact idx_first rs j hj (by rw [List.getElem?_eq_getElem hj2, z])⟩

/-! ### isinstance -/
theorem c_isi {t u : Value} {v : V} {k : Bool} {p : Pos} (h1 : CE X e1 τ a) (h2 : CE X e2 τ (.cst v)) (hv : ClsV v u) (ht : ∀ B x, a.p B x → ∀ H, Gr B H → TyX X.K H x t) (hk : PySem.W.kitOne X.K t u = some k) (hm : X.mg "isinstance" = none) (hg : Gl X "isinstance" := by rfl)
    (he : starEach [e1, e2] X.env = (false, eval e1 X.env) :: starEach [e2] X.env := by rfl) (he2 : starEach [e2] X.env = (false, eval e2 X.env) :: starEach [] X.env := by rfl) (hpl : (backTo pos (starEach [e2] X.env)).any (·.1) = false := by rfl) : CE X (.Call (.Name "isinstance" p) [e1, e2] [] pos) τ (.bl k) :=
  c_blt call_isi hm PyProof.Rows.boot_isinstance (ca_cons h1 (ca_cons h2 ca_nil he2) he) (fun vs B H Q g h q => by
    obtain ⟨x, y, rfl, k1, k2⟩ := reps2 h
    have k2' : y = v := k2
    subst k2'
    exact ⟨x, y, t, u, k, rfl, hv, ht B x k1 H g, hk, q _ B H (.refl g) rfl⟩) (hg := hg) (he := he) (hpl := hpl)
theorem ty_int {K : PySem.W.Frag} (i : Int) : ∀ B x, (AV.int i).p B x → ∀ H, Gr B H → TyX K H x (.type "int") := fun B x h H _ => by cases h; exact .base (.int i)
theorem ty_bl {K : PySem.W.Frag} (b : Bool) : ∀ B x, (AV.bl b).p B x → ∀ H, Gr B H → TyX K H x (.type "bool") := fun B x h H _ => by cases h; exact .base (.bl b)
theorem ty_non {K : PySem.W.Frag} : ∀ B x, AV.non.p B x → ∀ H, Gr B H → TyX K H x (.type "NoneType") := fun B x h H _ => by cases h; exact .base .non
theorem ty_str {K : PySem.W.Frag} (z : Str) : ∀ B x, (AV.str z).p B x → ∀ H, Gr B H → TyX K H x (.type "str") := fun B x h H _ => by cases h; exact .base (.str z)
theorem ty_lst {K : PySem.W.Frag} (l : List AV) : ∀ B x, (AV.lst l).p B x → ∀ H, Gr B H → TyX K H x (.type "list") := fun B x h H g => by
  obtain ⟨a, xs, rfl, h1, _⟩ := h
  exact .base (.lst (g _ _ h1))
theorem ty_tup {K : PySem.W.Frag} (l : List AV) : ∀ B x, (AV.tup l).p B x → ∀ H, Gr B H → TyX K H x (.type "tuple") := fun B x h H g => by
  obtain ⟨a, xs, rfl, h1, _⟩ := h
  exact .base (.tup (g _ _ h1))
end
end Ab
set_option Elab.async false
set_option linter.all false
set_option maxRecDepth 100000
set_option maxHeartbeats 1000000
namespace Ab
open PySem L2
/-! ### built-ins by their names -/
section
variable {X : Cx} {e : Expr} {τ : Tau} {a : AV} {l : List AV} {pos p : Pos} {i : Int} {ns : List Int}
theorem c_len (hm : X.mg "len" = none) (h : CE X e τ (.lst l)) (hg : Gl X "len" := by rfl) (he : starEach [e] X.env = (false, eval e X.env) :: starEach [] X.env := by rfl) (hpl : (backTo pos (starEach [] X.env)).any (·.1) = false := by rfl) :
    CE X (.Call (.Name "len" p) [e] [] pos) τ (.int l.length) := c_blt call_len_seq hm PySem.boot_len (ca_cons h ca_nil he) r_len (hg := hg) (he := he) (hpl := hpl)
theorem c_lenI (hm : X.mg "len" = none) (h : CE X e τ (.il ns)) (hg : Gl X "len" := by rfl) (he : starEach [e] X.env = (false, eval e X.env) :: starEach [] X.env := by rfl) (hpl : (backTo pos (starEach [] X.env)).any (·.1) = false := by rfl) :
    CE X (.Call (.Name "len" p) [e] [] pos) τ (.int ns.length) := (c_len hm h hg he hpl).is (by rw [List.length_map])
theorem c_sum (hm : X.mg "sum" = none) (h : CE X e τ (.il ns)) (hc : X.calm = true := by rfl) (hg : Gl X "sum" := by rfl) (he : starEach [e] X.env = (false, eval e X.env) :: starEach [] X.env := by rfl) (hpl : (backTo pos (starEach [] X.env)).any (·.1) = false := by rfl) :
    CE X (.Call (.Name "sum" p) [e] [] pos) τ (.int ns.sum) := c_blt (cr_sum hc) hm PyProof.Rows.boot_sum (ca_cons h ca_nil he) r_sum (hg := hg) (he := he) (hpl := hpl)
theorem c_sumR (hm : X.mg "sum" = none) (h : CE X e τ (.rdo X.K (ns.map AV.int))) (hc : X.calm = true := by rfl) (hg : Gl X "sum" := by rfl) (he : starEach [e] X.env = (false, eval e X.env) :: starEach [] X.env := by rfl) (hpl : (backTo pos (starEach [] X.env)).any (·.1) = false := by rfl) :
    CE X (.Call (.Name "sum" p) [e] [] pos) τ (.int ns.sum) := c_blt (cr_sum hc) hm PyProof.Rows.boot_sum (ca_cons h ca_nil he) r_sumR (hg := hg) (he := he) (hpl := hpl)
theorem c_all {bs : List Bool} (hm : X.mg "all" = none) (h : CE X e τ (.lst (bs.map AV.bl))) (hc : X.calm = true := by rfl) (hg : Gl X "all" := by rfl) (he : starEach [e] X.env = (false, eval e X.env) :: starEach [] X.env := by rfl) (hpl : (backTo pos (starEach [] X.env)).any (·.1) = false := by rfl) :
    CE X (.Call (.Name "all" p) [e] [] pos) τ (.bl (bs.all id)) := c_blt (cr_all hc) hm PyProof.Rows.boot_all (ca_cons h ca_nil he) r_all (hg := hg) (he := he) (hpl := hpl)
theorem c_min (hm : X.mg "min" = none) (h : CE X e τ (.il ns)) (hn : ns ≠ []) (hc : X.calm = true := by rfl) (hg : Gl X "min" := by rfl) (he : starEach [e] X.env = (false, eval e X.env) :: starEach [] X.env := by rfl) (hpl : (backTo pos (starEach [] X.env)).any (·.1) = false := by rfl) :
    CE X (.Call (.Name "min" p) [e] [] pos) τ (.int (minI ns)) := c_blt (cr_min hc) hm PyProof.Rows.boot_min (ca_cons h ca_nil he) (r_min hn) (hg := hg) (he := he) (hpl := hpl)
theorem c_max (hm : X.mg "max" = none) (h : CE X e τ (.il ns)) (hn : ns ≠ []) (hc : X.calm = true := by rfl) (hg : Gl X "max" := by rfl) (he : starEach [e] X.env = (false, eval e X.env) :: starEach [] X.env := by rfl) (hpl : (backTo pos (starEach [] X.env)).any (·.1) = false := by rfl) :
    CE X (.Call (.Name "max" p) [e] [] pos) τ (.int (maxI ns)) := c_blt (cr_max hc) hm PyProof.Rows.boot_max (ca_cons h ca_nil he) (r_max hn) (hg := hg) (he := he) (hpl := hpl)
theorem c_minR {rs : List (List Int)} (hm : X.mg "min" = none) (hu : X.A.units + 64 < cLine) (h : CE X e τ (.ll rs)) (hn : rs ≠ []) (hc : X.calm = true := by rfl) (hg : Gl X "min" := by rfl) (he : starEach [e] X.env = (false, eval e X.env) :: starEach [] X.env := by rfl) (hpl : (backTo pos (starEach [] X.env)).any (·.1) = false := by rfl) :
    CE X (.Call (.Name "min" p) [e] [] pos) τ (.il (minR rs)) := c_blt (cr_minR hu hc) hm PyProof.Rows.boot_min (ca_cons h ca_nil he) (r_minR hn) (hg := hg) (he := he) (hpl := hpl)
theorem c_abs (hm : X.mg "abs" = none) (h : CE X e τ (.int i)) (hg : Gl X "abs" := by rfl) (he : starEach [e] X.env = (false, eval e X.env) :: starEach [] X.env := by rfl) (hpl : (backTo pos (starEach [] X.env)).any (·.1) = false := by rfl) :
    CE X (.Call (.Name "abs" p) [e] [] pos) τ (.int (if i < 0 then -i else i)) := c_blt call_abs hm PyProof.Rows.boot_abs (ca_cons h ca_nil he) r_abs (hg := hg) (he := he) (hpl := hpl)
theorem cn_list (hm : X.mg "list" = none) (h : CE X e τ (.lst l)) (hg : Gl X "list" := by rfl) (he : starEach [e] X.env = (false, eval e X.env) :: starEach [] X.env := by rfl) (hpl : (backTo pos (starEach [] X.env)).any (·.1) = false := by rfl) :
    CN X (.Call (.Name "list" p) [e] [] pos) τ l := cn_typ call_list_of hm PyProof.Rows.boot_list (ca_cons h ca_nil he) r_list (hg := hg) (he := he) (hpl := hpl)
/-- int, bool, list, .. as values -/
theorem c_tint (hm : X.mg "int" = none) (hg : Gl X "int" := by rfl) : CE X (.Name "int" pos) τ (.cst (.ty "int")) := c_bltn hm PyProof.Rows.boot_int rfl hg
theorem c_tbool (hm : X.mg "bool" = none) (hg : Gl X "bool" := by rfl) : CE X (.Name "bool" pos) τ (.cst (.ty "bool")) := c_bltn hm PyProof.Rows.boot_bool rfl hg
theorem c_tlist (hm : X.mg "list" = none) (hg : Gl X "list" := by rfl) : CE X (.Name "list" pos) τ (.cst (.ty "list")) := c_bltn hm PyProof.Rows.boot_list rfl hg
theorem c_tstr (hm : X.mg "str" = none) (hg : Gl X "str" := by rfl) : CE X (.Name "str" pos) τ (.cst (.ty "str")) := c_bltn hm PyProof.Rows.boot_str rfl hg
theorem c_ttuple (hm : X.mg "tuple" = none) (hg : Gl X "tuple" := by rfl) : CE X (.Name "tuple" pos) τ (.cst (.ty "tuple")) := c_bltn hm PyProof.Rows.boot_tuple rfl hg
end
/-! ### comprehensions with one name, with two -/
section
variable {X : Cx} {τ : Tau} {pos px : Pos} {N : AE} {α : Type} {elt iter : Expr} {ifs : List Expr} {scope : Scope} {x : Str} {xs : List α} {φ χ : α → AV}
theorem cn_lc1 (j : Nat) (P : α → Bool) (hN : X.N.Nodup) (hi : CI X (.Name x px) iter τ (xs.map φ)) (hz : xs.length ≤ 1000000)
    (ht : ∀ y ∈ xs, ∀ (s : Shared) (H : Hp) (C : Addr) (cl : List (Str × Addr)) (fp : List Addr), CTs (X.blk s H scope (compEnvC scope cl C X.env) fp) ifs ((τ.set j none).set j (some (.val (φ y)))) (P y))
    (he : ∀ y ∈ xs, P y = true → ∀ (s : Shared) (H : Hp) (C : Addr) (cl : List (Str × Addr)) (fp : List Addr), CE (X.blk s H scope (compEnvC scope cl C X.env) fp) elt ((τ.set j none).set j (some (.val (φ y)))) (χ y))
    (ok : blkC X.N X.env.scope scope [(x, j)] = true := by kernel_rfl) (hc : X.calm = true := by rfl)
    (hg : ∀ (s : Shared) (H : Hp) (C : Addr) (cl : List (Str × Addr)) (fp : List Addr), PG (X.blk s H scope (compEnvC scope cl C X.env) fp) (.Name x px) (gName j) := by exact fun _ _ _ _ _ => pg_name (by assumption) rfl (Or.inl rfl))
    (hs : ∀ x, foldedSetIterable iter X.env x = pure x := by intro _; rfl) : CN X (.ListComp elt [⟨.Name x px, iter, ifs, 0⟩] scope pos) τ ((xs.filter P).map χ) :=
  cn_lc (own := [(x, j)]) xs φ χ P (fun y => (τ.set j none).set j (some (.val (φ y)))) hc hN hi (blkOk_by ok) hg hz (fun y _ => gaw_name (vs := [j]) j (by simp)) ht he hs
theorem cs_setLc1 (i j : Nat) {l : List AV} {y : Str} {py spos : Pos} (P : α → Bool) (hN : X.N.Nodup) (hi : CI X (.Name x px) iter τ (xs.map φ)) (hz : xs.length ≤ 1000000)
    (ht : ∀ y ∈ xs, ∀ (s : Shared) (H : Hp) (C : Addr) (cl : List (Str × Addr)) (fp : List Addr), CTs (X.blk s H scope (compEnvC scope cl C X.env) fp) ifs ((τ.set j none).set j (some (.val (φ y)))) (P y))
    (he : ∀ y ∈ xs, P y = true → ∀ (s : Shared) (H : Hp) (C : Addr) (cl : List (Str × Addr)) (fp : List Addr), CE (X.blk s H scope (compEnvC scope cl C X.env) fp) elt ((τ.set j none).set j (some (.val (φ y)))) (χ y))
    (q : (xs.filter P).map χ = l) (k : N.nx (τ.set i (some (.val (.lst l)))))
    (hy : X.N[i]? = some y := by rfl) (hyl : X.env.scope.names.lookup y = some .local := by rfl)
    (hsw : swapsWith (.ListComp elt [⟨.Name x px, iter, ifs, 0⟩] scope pos) (some (.Name y py)) spos.line X.env = pure true := by exact sw_true rfl rfl rfl (by decide +kernel))
    (ok : blkC X.N X.env.scope scope [(x, j)] = true := by kernel_rfl) (hc : X.calm = true := by rfl)
    (hg : ∀ (s : Shared) (H : Hp) (C : Addr) (cl : List (Str × Addr)) (fp : List Addr), PG (X.blk s H scope (compEnvC scope cl C X.env) fp) (.Name x px) (gName j) := by exact fun _ _ _ _ _ => pg_name (by assumption) rfl (Or.inl rfl))
    (hs : ∀ x, foldedSetIterable iter X.env x = pure x := by intro _; rfl) : CS X (.Assign [.Name y py] (.ListComp elt [⟨.Name x px, iter, ifs, 0⟩] scope pos) spos) τ N :=
  cs_setLc (own := [(x, j)]) i xs φ χ P (fun y => (τ.set j none).set j (some (.val (φ y)))) hc hN hy hyl hsw hi (blkOk_by ok) hg hz (fun y _ => gaw_name (vs := [j]) j (by simp)) ht he hs (q.symm ▸ k)
variable {x2 : Str} {p1 p2 p3 : Pos} {kk : Nat} {φ2 : α → AV}
theorem cn_lc2 (j j2 : Nat) (P : α → Bool) (hN : X.N.Nodup) (hi : CI X (.Tuple [.Name x p1, .Name x2 p2] kk p3) iter τ (xs.map fun y => .tup [φ y, φ2 y])) (hz : xs.length ≤ 1000000)
    (ht : ∀ y ∈ xs, ∀ (s : Shared) (H : Hp) (C : Addr) (cl : List (Str × Addr)) (fp : List Addr), CTs (X.blk s H scope (compEnvC scope cl C X.env) fp) ifs ((((τ.set j2 none).set j none).set j (some (.val (φ y)))).set j2 (some (.val (φ2 y)))) (P y))
    (he : ∀ y ∈ xs, P y = true → ∀ (s : Shared) (H : Hp) (C : Addr) (cl : List (Str × Addr)) (fp : List Addr), CE (X.blk s H scope (compEnvC scope cl C X.env) fp) elt ((((τ.set j2 none).set j none).set j (some (.val (φ y)))).set j2 (some (.val (φ2 y)))) (χ y))
    (ok : blkC X.N X.env.scope scope [(x, j), (x2, j2)] = true := by kernel_rfl) (hc : X.calm = true := by rfl)
    (hg : ∀ (s : Shared) (H : Hp) (C : Addr) (cl : List (Str × Addr)) (fp : List Addr), PG (X.blk s H scope (compEnvC scope cl C X.env) fp) (.Tuple [.Name x p1, .Name x2 p2] kk p3) (gTup X.K 2 (gCons (gName j) (gCons (gName j2) gNil))) := by
      exact fun _ _ _ _ _ => pg_tup rfl (pgs_cons (pg_name (by assumption) rfl (Or.inl rfl)) (pgs_cons (pg_name (by assumption) rfl (Or.inl rfl)) pgs_nil)))
    (hs : ∀ x, foldedSetIterable iter X.env x = pure x := by intro _; rfl) : CN X (.ListComp elt [⟨.Tuple [.Name x p1, .Name x2 p2] kk p3, iter, ifs, 0⟩] scope pos) τ ((xs.filter P).map χ) :=
  cn_lc (own := [(x, j), (x2, j2)]) xs (fun y => .tup [φ y, φ2 y]) χ P (fun y => (((τ.set j2 none).set j none).set j (some (.val (φ y)))).set j2 (some (.val (φ2 y)))) hc hN hi (blkOk_by ok) hg hz (fun y _ => gaw_tup2 (vs := [j, j2]) j j2 (by simp) (by simp)) ht he hs
/-- the whole numbers of a list with its places -/
theorem enm_map (f : α → AV) (xs : List α) : enm (xs.map f) = xs.zipIdx.map fun q => .tup [.int (q.2 : Nat), f q.1] := by
  unfold enm
  rw [List.zipIdx_map, List.map_map]
  rfl
end
theorem CI.is {X : Cx} {tg e : Expr} {τ : Tau} {l m : List AV} (h : CI X tg e τ l) (q : l = m) : CI X tg e τ m := q ▸ h
theorem units65 {k : Nat} {A : Around} (r : Room k A) : A.units + 65 < cLine := by have := r.un; omega
theorem c_globI {X : Cx} {τ : Tau} {pos : Pos} {x : Str} {i : Int} {t : Tok} (hm : X.mg x = some (.int i t)) (hg : Gl X x := by rfl) (hd : (x == ("__debug__" : Str)) = false := by decide) : CE X (.Name x pos) τ (.int i) := c_glob hm ⟨t, rfl⟩ hg hd
theorem filter_true {α : Type} (xs : List α) : xs.filter (fun _ => true) = xs := by simp
/-- a def's body, with what it may lean on -/
theorem has_of {P : Program} {w : World} {K : PySem.W.Frag} {mg : Str → Option Value} {base : Heap} {x : Str} {k : Nat} {sp : Sp} {f : Addr} {fd : FuncData} {ps : List Str} (G : FnOk P w K mg base CX0 k f fd ps sp) (hm : mg x = some (.ref f)) (kp : PySem.W.keepIn K (.ref f) = true) (b : Binds K fd ps []) : Has P w K mg base x k sp := ⟨f, fd, ps, G, hm, kp, b⟩
end Ab
set_option Elab.async false
set_option linter.all false
set_option maxRecDepth 100000
set_option maxHeartbeats 1000000
namespace Ab
open PySem L2
/-! ### one of several values -/
namespace AV
/-- some f x with P x -/
def ex {α : Type} (P : α → Prop) (f : α → AV) : AV := ⟨fun H v => ∃ x, P x ∧ (f x).p H v, fun e ⟨x, h1, h2⟩ => ⟨x, h1, (f x).mono e h2⟩⟩
end AV
def AV.le (a b : AV) : Prop := ∀ H v, a.p H v → b.p H v
theorem AV.le_ex {α : Type} {P : α → Prop} {f : α → AV} {x : α} (h : P x) : (f x).le (.ex P f) := fun H v k => ⟨x, h, k⟩
theorem AV.ex_le {α : Type} {P Q : α → Prop} {f : α → AV} (h : ∀ x, P x → Q x) : (AV.ex P f).le (.ex Q f) := fun H v ⟨x, k1, k2⟩ => ⟨x, h x k1, k2⟩
theorem AV.le_rdo {K : PySem.W.Frag} {l : List AV} : (AV.lst l).le (.rdo K l) := fun H v ⟨a, xs, h1, h2, h3⟩ => ⟨a, xs, h1, SqL.of h2, h3⟩
section
variable {X : Cx} {e e1 e2 : Expr} {τ : Tau} {a b c : AV} {l m : List AV} {sts : List Stmt} {N : AE} {pos p : Pos} {α : Type} {P : α → Prop} {f : α → AV}
theorem CE.le (h : CE X e τ a) (k : a.le b) : CE X e τ b := ce_of h fun F0 F B σ H Q S q => ⟨F0, F, B, S, fun v B' H' x hv => q v B' H' x (k B' v hv)⟩
theorem CE.ex {x : α} (h : CE X e τ (f x)) (k : P x) : CE X e τ (.ex P f) := h.le (AV.le_ex k)
theorem CE.rdo (h : CE X e τ (.lst l)) : CE X e τ (.rdo X.K l) := h.le AV.le_rdo
/-- a slot holds one of several values: go on with each -/
theorem css_open (i : Nat) (h : ∀ x, P x → CSs X sts (τ.set i (some (.val (f x)))) N) (ht : τ[i]? = some (some (.val (.ex P f))) := by rfl) : CSs X sts τ N := by
  refine css_of (pss_any (ι := { x : α // P x }) (t := fun x => tS (τ.set i (some (.val (f x.1)))) N) fun x => h x.1 x.2) fun F0 F B D σ H S L => ?_
  obtain ⟨v, h1, x, h2, h3⟩ := S.val i _ ht
  refine ⟨⟨x, h2⟩, F0, F, B, ?_, L⟩
  have S' := S.set (i := i) h3
  have e : σ.set i (some v) = σ := by
    apply List.ext_getElem?
    intro j
    by_cases hj : i = j
    · subst hj
      rw [List.getElem?_set_self (List.getElem?_eq_some_iff.mp h1).1, h1]
    · rw [List.getElem?_set_ne hj]
  rw [e] at S'
  exact S'
/-! ### an own list read for a while -/
theorem sta_peek {F0 F B : Hp} {σ : St} {H : Hp} {i : Nat} {sh : Shp} {ls : List (List AV)} (S : Sta F0 F B σ H τ) (ht : τ[i]? = some (some (.ow sh ls))) : ∃ B1, Sta F0 F B1 σ H (τ.set i (some (.val (valOf sh ls)))) := by
  obtain ⟨B1, _, S'⟩ := S.fixW ht
  exact ⟨_, S'⟩
theorem ext_back {B H B1 B' H' : Hp} (s : Gr B H) (x : Ext B1 H B' H') : Ext B H B H' := ⟨.refl _, x.h, s.trans x.h, fun _ _ _ => rfl⟩
theorem ct_ownW (i : Nat) {b : Bool} {sh : Shp} {ls : List (List AV)} (h : CT X e (τ.set i (some (.val (valOf sh ls)))) b) (ht : τ[i]? = some (some (.ow sh ls)) := by rfl) : CT X e τ b := ct_of h fun F0 F B σ H Q S q => by
  obtain ⟨B1, S'⟩ := sta_peek S ht
  exact ⟨F0, F, B1, S', fun B' H' x => q B H' (ext_back S.gr x)⟩
theorem ce_ownW (i : Nat) {v : V} {sh : Shp} {ls : List (List AV)} (h : CE X e (τ.set i (some (.val (valOf sh ls)))) (.cst v)) (ht : τ[i]? = some (some (.ow sh ls)) := by rfl) : CE X e τ (.cst v) := ce_of h fun F0 F B σ H Q S q => by
  obtain ⟨B1, S'⟩ := sta_peek S ht
  exact ⟨F0, F, B1, S', fun w B' H' x hw => q w B H' (ext_back S.gr x) hw⟩
theorem ct_own (i : Nat) {b : Bool} (h : CT X e (τ.set i (some (.val (.lst l)))) b) (ht : τ[i]? = some (some (.own l)) := by rfl) : CT X e τ b := ct_ownW (sh := .bare) (ls := [l]) i h ht
theorem ce_own (i : Nat) {v : V} (h : CE X e (τ.set i (some (.val (.lst l)))) (.cst v)) (ht : τ[i]? = some (some (.own l)) := by rfl) : CE X e τ (.cst v) := ce_ownW (sh := .bare) (ls := [l]) i h ht
/-- a place of a list of numbers -/
def nth (ns : List Int) (i : Int) : Int := (ns[i.toNat]?).getD 0
theorem atI_nth {ns : List Int} {i : Int} (h0 : 0 ≤ i) (h1 : i < ns.length) : atI (ns.map AV.int) i = some (.int (nth ns i)) := by
  unfold atI ixN nth
  have h2 : i.toNat < ns.length := by omega
  rw [List.length_map]
  first
    | (rw [if_pos h0, if_pos (by omega)]; rw [Option.bind_some]; simp [h2])
    | (simp [h0, h1, h2]; done)
    | (simp [h0, h1, h2]; omega)
theorem nth_mem {ns : List Int} {i : Int} (h0 : 0 ≤ i) (h1 : i < ns.length) : nth ns i ∈ ns := by
  have h2 : i.toNat < ns.length := by omega
  unfold nth; rw [List.getElem?_eq_getElem h2]; exact List.getElem_mem _
end
/-! ### products of great numbers -/
theorem mul_ok {i j : Int} {n : Nat} (h : Builtin.Int.intBits i + Builtin.Int.intBits j ≤ 100000000) : IntMulOk i j := by
  have e : bitsLine = 134217728 := by decide
  unfold IntMulOk
  intro z
  rw [Bool.and_eq_true] at z
  have z2 := z.2
  unfold Builtin.Int.intTooBig at z2
  have z3 := of_decide_eq_true z2
  rw [e] at z3
  omega
theorem bits_le {i : Int} {n : Nat} (h : i.natAbs < 2 ^ n) : Builtin.Int.intBits i ≤ n := PyProof.Rows.intBits_le h
theorem lt_bits (i : Int) : i.natAbs < 2 ^ Builtin.Int.intBits i := by
  unfold Builtin.Int.intBits
  split
  · rename_i h
    have : i = 0 := by simpa using h
    subst this; simp
  · exact Nat.lt_log2_self
theorem CW_is {X : Cx} {e : Expr} {τ : Tau} {b c : Bool} (h : CW X e τ b) (q : b = c) : CW X e τ c := q ▸ h
/-! ### more of loops and comprehensions -/
section
variable {X : Cx} {τ : Tau} {pos px : Pos} {N : AE} {α : Type} {elt iter tg e : Expr} {ifs : List Expr} {scope : Scope} {x x2 : Str} {xs : List α} {φ φ2 χ : α → AV} {p1 p2 p3 : Pos} {kk : Nat}
theorem cs_setLc2O (i j j2 : Nat) {l : List AV} {y : Str} {py spos : Pos} (P : α → Bool) (hN : X.N.Nodup) (hi : CI X (.Tuple [.Name x p1, .Name x2 p2] kk p3) iter τ (xs.map fun y => .tup [φ y, φ2 y])) (hz : xs.length ≤ 1000000)
    (ht : ∀ y ∈ xs, ∀ (s : Shared) (H : Hp) (C : Addr) (cl : List (Str × Addr)) (fp : List Addr), CTs (X.blk s H scope (compEnvC scope cl C X.env) fp) ifs ((((τ.set j2 none).set j none).set j (some (.val (φ y)))).set j2 (some (.val (φ2 y)))) (P y))
    (he : ∀ y ∈ xs, P y = true → ∀ (s : Shared) (H : Hp) (C : Addr) (cl : List (Str × Addr)) (fp : List Addr), CE (X.blk s H scope (compEnvC scope cl C X.env) fp) elt ((((τ.set j2 none).set j none).set j (some (.val (φ y)))).set j2 (some (.val (φ2 y)))) (χ y))
    (q : (xs.filter P).map χ = l) (k : N.nx (τ.set i (some (.own l))))
    (hy : X.N[i]? = some y := by rfl) (hyl : X.env.scope.names.lookup y = some .local := by rfl)
    (hsw : swapsWith (.ListComp elt [⟨.Tuple [.Name x p1, .Name x2 p2] kk p3, iter, ifs, 0⟩] scope pos) (some (.Name y py)) spos.line X.env = pure true := by exact sw_true rfl rfl rfl (by decide +kernel))
    (ok : blkC X.N X.env.scope scope [(x, j), (x2, j2)] = true := by kernel_rfl) (hc : X.calm = true := by rfl)
    (hg : ∀ (s : Shared) (H : Hp) (C : Addr) (cl : List (Str × Addr)) (fp : List Addr), PG (X.blk s H scope (compEnvC scope cl C X.env) fp) (.Tuple [.Name x p1, .Name x2 p2] kk p3) (gTup X.K 2 (gCons (gName j) (gCons (gName j2) gNil))) := by
      exact fun _ _ _ _ _ => pg_tup rfl (pgs_cons (pg_name (by assumption) rfl (Or.inl rfl)) (pgs_cons (pg_name (by assumption) rfl (Or.inl rfl)) pgs_nil)))
    (hs : ∀ x, foldedSetIterable iter X.env x = pure x := by intro _; rfl) : CS X (.Assign [.Name y py] (.ListComp elt [⟨.Tuple [.Name x p1, .Name x2 p2] kk p3, iter, ifs, 0⟩] scope pos) spos) τ N :=
  cs_setLcO (own := [(x, j), (x2, j2)]) i xs (fun y => .tup [φ y, φ2 y]) χ P (fun y => (((τ.set j2 none).set j none).set j (some (.val (φ y)))).set j2 (some (.val (φ2 y)))) hc hN hy hyl hsw hi (blkOk_by ok) hg hz (fun y _ => gaw_tup2 (vs := [j, j2]) j j2 (by simp) (by simp)) ht he hs (q.symm ▸ k)
/-- for over what is made of a plain list -/
theorem cs_forM {body : List Stmt} {g : TG} (I : Nat → Tau → Prop) (hi : CI X tg iter τ (xs.map φ)) (hg : PG X tg g)
    (h0 : I 0 τ) (hb : ∀ (i : Nat) b τ1, xs[i]? = some b → b ∈ xs → I i τ1 → ∃ τ2, GA g (φ b) τ1 τ2 ∧ CSs X body τ2 ⟨I (i + 1), N.rt, N.rn, N.nx, I (i + 1)⟩) (hd : ∀ τ', I xs.length τ' → N.nx τ')
    (hp : PassesOwn (model X.prog X.w) X.A X.env X.xe := by exact PassesOwn.never) (hc : X.calm = true := by rfl) (hs : ∀ x, foldedSetIterable iter X.env x = pure x := by intro _; rfl) : CS X (.For tg iter body [] pos) τ N :=
  cs_for I hi hg h0 (fun i a τ1 h1 h2 => by
    rw [List.getElem?_map] at h1
    cases q : xs[i]? with
    | none => rw [q] at h1; cases h1
    | some b =>
      rw [q] at h1
      have e : φ b = a := by simpa using h1
      subst e
      exact hb i b τ1 q (List.mem_of_getElem? q) h2) (fun τ' h => hd τ' (by rw [List.length_map] at h; exact h)) hp hc hs
/-- .. by one name -/
theorem cs_forN (j : Nat) {body : List Stmt} (I : Nat → Tau → Prop) (hN : X.N.Nodup) (hi : CI X (.Name x px) iter τ (xs.map φ))
    (h0 : I 0 τ) (hb : ∀ (i : Nat) b τ1, xs[i]? = some b → b ∈ xs → I i τ1 → CSs X body (τ1.set j (some (.val (φ b)))) ⟨I (i + 1), N.rt, N.rn, N.nx, I (i + 1)⟩) (hd : ∀ τ', I xs.length τ' → N.nx τ')
    (hg : PG X (.Name x px) (gName j) := by first | exact pg_name (by assumption) rfl (Or.inl rfl) | exact pg_name (by assumption) rfl (Or.inr rfl))
    (hp : PassesOwn (model X.prog X.w) X.A X.env X.xe := by exact PassesOwn.never) (hc : X.calm = true := by rfl) (hs : ∀ x, foldedSetIterable iter X.env x = pure x := by intro _; rfl) : CS X (.For (.Name x px) iter body [] pos) τ N :=
  cs_forM I hi hg h0 (fun i b τ1 h1 h2 h3 => ⟨_, ga_name j, hb i b τ1 h1 h2 h3⟩) hd hp hc hs
theorem ixN_of {n : Nat} {k : Int} (h0 : 0 ≤ k) (h1 : k < n) : ixN n k = some k.toNat := by unfold ixN; rw [if_pos h0, if_pos h1]
/-- a list display of numbers, walked -/
theorem ci_ints {es : List Expr} {ns : List Int} (h : CA X es τ (ns.map AV.int)) (hz : ns.length ≤ 1000000 := by first | decide | (simp; done)) : CI X tg (.List es pos) τ (ns.map AV.int) := ci_list (CN.ce (cn_lst h (by rw [List.length_map]; exact hz)))
theorem map_set_int (ns : List Int) (i : Nat) (x : Int) : (ns.map AV.int).set i (.int x) = (ns.set i x).map AV.int := by rw [List.map_set]
end
end Ab
set_option Elab.async false
set_option linter.all false
set_option maxRecDepth 100000
set_option maxHeartbeats 1000000
namespace RM
open Ab
/-! ### plain mathematics of rings -/
theorem cut_fromI {α : Type} (xs : List α) {i : Int} (h : 0 ≤ i) : cut xs (some i) none = xs.drop i.toNat := by
  have := cut_from xs i.toNat
  rwa [Int.toNat_of_nonneg h] at this
theorem cut_toI {α : Type} (xs : List α) {i : Int} (h : 0 ≤ i) : cut xs none (some i) = xs.take i.toNat := by
  have := cut_to xs i.toNat
  rwa [Int.toNat_of_nonneg h] at this
/-- the order of rows -/
theorem lexlt_irrefl : ∀ r : List Int, lexlt r r = false
  | [] => rfl
  | a :: r => by unfold lexlt; rw [if_pos rfl]; exact lexlt_irrefl r
theorem lexlt_trans : ∀ r s t : List Int, lexlt r s = true → lexlt s t = true → lexlt r t = true
  | _, [], _, h, _ => by cases ‹List Int› <;> simp [lexlt] at h
  | _, _ :: _, [], _, h => by simp [lexlt] at h
  | [], _ :: _, _ :: _, _, _ => rfl
  | a :: r, b :: s, c :: t, h1, h2 => by
    unfold lexlt at h1 h2 ⊢
    by_cases ab : a = b
    · rw [if_pos ab] at h1
      by_cases bc : b = c
      · rw [if_pos bc] at h2; rw [if_pos (ab.trans bc)]; exact lexlt_trans r s t h1 h2
      · rw [if_neg bc] at h2; rw [if_neg (by rw [ab]; exact bc), ab]; exact h2
    · rw [if_neg ab] at h1
      have h1' := of_decide_eq_true h1
      by_cases bc : b = c
      · rw [if_neg (by rw [← bc]; exact ab), ← bc]; exact h1
      · rw [if_neg bc] at h2
        have h2' := of_decide_eq_true h2
        rw [if_neg (by omega)]; exact decide_eq_true (by omega)
theorem lexlt_tri : ∀ r s : List Int, lexlt r s = false → lexlt s r = false → r = s
  | [], [], _, _ => rfl
  | [], _ :: _, h, _ => by simp [lexlt] at h
  | _ :: _, [], _, h => by simp [lexlt] at h
  | a :: r, b :: s, h1, h2 => by
    unfold lexlt at h1 h2
    by_cases ab : a = b
    · rw [if_pos ab] at h1; rw [if_pos ab.symm] at h2; rw [ab, lexlt_tri r s h1 h2]
    · rw [if_neg ab] at h1; rw [if_neg (Ne.symm ab)] at h2
      have := of_decide_eq_false h1
      have := of_decide_eq_false h2
      omega
theorem least_is (lt : Nat → Nat → Bool) (tr : ∀ i j k, lt i j = true → lt j k = true → lt i k = true) (ir : ∀ i, lt i i = false) : ∀ n i, i ≤ n → lt i (least lt n) = false
  | 0, i, h => by
    have : i = 0 := by omega
    subst this; exact ir 0
  | n + 1, i, h => by
    have ih := least_is lt tr ir n
    show lt i (if lt (n + 1) (least lt n) = true then n + 1 else least lt n) = false
    by_cases hl : lt (n + 1) (least lt n) = true
    · rw [if_pos hl]
      cases hi : lt i (n + 1) with
      | false => rfl
      | true =>
        have := tr _ _ _ hi hl
        by_cases hn : i ≤ n
        · rw [ih i hn] at this; exact this.symm
        · have e : i = n + 1 := by omega
          subst e; rw [ir] at hi; exact hi.symm
    · rw [if_neg hl]
      by_cases hn : i ≤ n
      · exact ih i hn
      · have e : i = n + 1 := by omega
        subst e; simpa using hl
theorem minR_mem {rs : List (List Int)} (h : rs ≠ []) : minR rs ∈ rs := by
  have hp := List.length_pos_iff.mpr h
  have := least_le (fun i j => lexlt (rs.getD i []) (rs.getD j [])) (rs.length - 1)
  unfold minR
  rw [List.getD_eq_getElem?_getD, List.getElem?_eq_getElem (by omega)]
  exact List.getElem_mem _
theorem minR_least {rs : List (List Int)} {r : List Int} (h : r ∈ rs) : lexlt r (minR rs) = false := by
  obtain ⟨i, hi, e⟩ := List.getElem_of_mem h
  have := least_is (fun i j => lexlt (rs.getD i []) (rs.getD j [])) (fun i j k => lexlt_trans _ _ _) (fun i => lexlt_irrefl _) (rs.length - 1) i (by omega)
  have e1 : rs.getD i [] = r := by rw [List.getD_eq_getElem?_getD, List.getElem?_eq_getElem hi]; exact e
  rw [e1] at this
  exact this
theorem minR_uniq {rs : List (List Int)} {r : List Int} (h1 : r ∈ rs) (h2 : ∀ s ∈ rs, lexlt s r = false) : minR rs = r :=
  lexlt_tri _ _ (h2 _ (minR_mem (List.ne_nil_of_mem h1))) (minR_least h1)
theorem minR_congr {rs qs : List (List Int)} (h : rs ≠ []) (h1 : ∀ r, r ∈ rs ↔ r ∈ qs) : minR rs = minR qs := by
  have m := minR_mem h
  exact (minR_uniq ((h1 _).mp m) fun s hs => minR_least ((h1 s).mpr hs)).symm

/-- a ring begun so many beads on -/
def turnOf (r : List Int) (b : Int) : List Int := r.drop (b % r.length).toNat ++ r.take (b % r.length).toNat
theorem turnOf_len (r : List Int) (b : Int) : (turnOf r b).length = r.length := by
  unfold turnOf; rw [List.length_append, List.length_drop, List.length_take]; omega
theorem turnOf_mem {r : List Int} {b x : Int} : x ∈ turnOf r b ↔ x ∈ r := by
  unfold turnOf
  rw [List.mem_append, Or.comm, ← List.mem_append, List.take_append_drop]
theorem turnOf_ne {r : List Int} {b : Int} (h : r ≠ []) : turnOf r b ≠ [] := fun e => by
  have := turnOf_len r b
  rw [e] at this
  exact h (List.length_eq_zero_iff.mp this.symm)
theorem turnOf_get {r : List Int} {b : Int} {i : Nat} (h : i < r.length) : (turnOf r b)[i]? = r[(((i : Int) + b) % r.length).toNat]? := by
  have hp : (0 : Int) < r.length := by omega
  have m0 := Int.emod_nonneg b (by omega : (r.length : Int) ≠ 0)
  have m1 := Int.emod_lt_of_pos b hp
  have key : ((i : Int) + b) % r.length = ((i : Int) + b % r.length) % r.length := by rw [Int.add_comm (i : Int) b, Int.add_comm (i : Int) (b % _), Int.emod_add_emod]
  unfold turnOf
  generalize hk : b % (r.length : Int) = k at *
  rw [key]
  by_cases hi : i < r.length - k.toNat
  · rw [List.getElem?_append_left (by rw [List.length_drop]; omega), List.getElem?_drop]
    rw [Int.emod_eq_of_lt (by omega) (by omega)]
    congr 1; omega
  · rw [List.getElem?_append_right (by rw [List.length_drop]; omega), List.length_drop, List.getElem?_take_of_lt (by omega)]
    have : ((i : Int) + k) % r.length = (i : Int) + k - r.length := by
      rw [← Int.sub_emod_right, Int.emod_eq_of_lt (by omega) (by omega)]
    rw [this]
    congr 1; omega
theorem turnOf_congr {r : List Int} {b c : Int} (h : b % r.length = c % r.length) : turnOf r b = turnOf r c := by unfold turnOf; rw [h]
theorem turnOf_turnOf (r : List Int) (b c : Int) : turnOf (turnOf r b) c = turnOf r (b + c) := by
  apply List.ext_getElem?
  intro i
  by_cases hi : i < r.length
  · have l1 := turnOf_len r b
    rw [turnOf_get (by rw [l1]; exact hi), turnOf_get hi]
    have hp : (0 : Int) < r.length := by omega
    have m0 := Int.emod_nonneg ((i : Int) + c) (by omega : (r.length : Int) ≠ 0)
    have m1 := Int.emod_lt_of_pos ((i : Int) + c) hp
    rw [l1, turnOf_get (by omega), Int.toNat_of_nonneg m0]
    congr 2
    rw [Int.emod_add_emod]
    congr 1; omega
  · rw [List.getElem?_eq_none (by rw [turnOf_len, turnOf_len]; omega), List.getElem?_eq_none (by rw [turnOf_len]; omega)]
theorem turnOf_zero (r : List Int) : turnOf r 0 = r := by unfold turnOf; simp
theorem turnOf_full (r : List Int) : turnOf r r.length = r := by unfold turnOf; simp
/-- all turnings -/
def turns (r : List Int) : List (List Int) := (rng 0 r.length).map (turnOf r)
theorem rng_mem {lo x : Int} {n : Nat} : x ∈ rng lo n ↔ lo ≤ x ∧ x < lo + n := by
  unfold rng
  rw [List.mem_map]
  constructor
  · rintro ⟨i, hi, rfl⟩
    rw [List.mem_range] at hi
    omega
  · rintro ⟨h1, h2⟩
    exact ⟨(x - lo).toNat, by rw [List.mem_range]; omega, by omega⟩
theorem turns_mem {r s : List Int} (h : r ≠ []) : s ∈ turns r ↔ ∃ b : Int, s = turnOf r b := by
  have hp : (0 : Int) < r.length := by have := List.length_pos_iff.mpr h; omega
  unfold turns
  rw [List.mem_map]
  constructor
  · rintro ⟨b, _, rfl⟩; exact ⟨b, rfl⟩
  · rintro ⟨b, rfl⟩
    exact ⟨b % r.length, rng_mem.mpr ⟨Int.emod_nonneg _ (by omega), by have := Int.emod_lt_of_pos b hp; omega⟩, turnOf_congr (Int.emod_emod_of_dvd _ (Int.dvd_refl _))⟩
theorem turns_ne {r : List Int} (h : r ≠ []) : turns r ≠ [] := List.ne_nil_of_mem ((turns_mem h).mpr ⟨0, rfl⟩)
theorem turns_len (r : List Int) : (turns r).length = r.length := by simp [turns, rng_len]
theorem turns_turn {r : List Int} {b : Int} (h : r ≠ []) (s : List Int) : s ∈ turns (turnOf r b) ↔ s ∈ turns r := by
  rw [turns_mem h, turns_mem (turnOf_ne h)]
  constructor
  · rintro ⟨c, rfl⟩; exact ⟨b + c, turnOf_turnOf r b c⟩
  · rintro ⟨c, rfl⟩; exact ⟨c - b, by rw [turnOf_turnOf]; congr 1; omega⟩
/-- the least row -/
def leastR (r : List Int) : List Int := minR (turns r)
def leastT (r : List Int) : Int := ((turns r).idxOf (leastR r) : Nat)
theorem leastR_turn {r : List Int} {b : Int} (h : r ≠ []) : leastR (turnOf r b) = leastR r := minR_congr (turns_ne (turnOf_ne h)) (turns_turn h)
theorem leastR_mem {r : List Int} (h : r ≠ []) : leastR r ∈ turns r := minR_mem (turns_ne h)
theorem leastT_turn {r : List Int} (h : r ≠ []) : turnOf r (leastT r) = leastR r := by
  have hm := leastR_mem h
  have hl : (turns r).idxOf (leastR r) < (turns r).length := List.idxOf_lt_length_iff.mpr hm
  have e : (turns r)[(turns r).idxOf (leastR r)]? = some (leastR r) := by rw [List.getElem?_eq_getElem hl, List.getElem_idxOf hl]
  have hl2 := hl
  rw [turns_len] at hl2
  have e2 : (turns r)[(turns r).idxOf (leastR r)]? = some (turnOf r (0 + ((turns r).idxOf (leastR r) : Nat))) := by
    conv => lhs; unfold turns
    rw [List.getElem?_map, rng_get (by rw [turns_len] at hl; exact hl)]; rfl
  rw [e] at e2
  have := Option.some.inj e2
  rw [Int.zero_add] at this
  exact this.symm
theorem leastR_len (r : List Int) (h : r ≠ []) : (leastR r).length = r.length := by rw [← leastT_turn h, turnOf_len]
theorem leastT_range {r : List Int} (h : r ≠ []) : 0 ≤ leastT r ∧ leastT r < r.length := by
  have hl : (turns r).idxOf (leastR r) < (turns r).length := List.idxOf_lt_length_iff.mpr (leastR_mem h)
  rw [turns_len] at hl
  unfold leastT; omega
/-- the period -/
def pers (r : List Int) : List Int := (rng 1 r.length).filter fun b => decide (turnOf r b = r)
def per (r : List Int) : Int := minI (pers r)
theorem pers_ne {r : List Int} (h : r ≠ []) : pers r ≠ [] := by
  have hp := List.length_pos_iff.mpr h
  exact List.ne_nil_of_mem (a := (r.length : Int)) (List.mem_filter.mpr ⟨rng_mem.mpr (by omega), decide_eq_true (turnOf_full r)⟩)
theorem pers_turn {r : List Int} {b : Int} : pers (turnOf r b) = pers r := by
  unfold pers
  rw [turnOf_len]
  congr 1
  funext c
  have : (turnOf (turnOf r b) c = turnOf r b) ↔ (turnOf r c = r) := by
    constructor
    · intro h
      have := congrArg (fun s => turnOf s (-b)) h
      simp only [turnOf_turnOf] at this
      rw [show b + c + -b = c by omega, show b + -b = 0 by omega, turnOf_zero] at this
      exact this
    · intro h
      rw [turnOf_turnOf, show b + c = c + b by omega, ← turnOf_turnOf, h]
  exact decide_eq_decide.mpr this
theorem per_turn {r : List Int} {b : Int} : per (turnOf r b) = per r := by unfold per; rw [pers_turn]
/-- how a ring is turned to be another one -/
def byOf (r q : List Int) : Int := (leastT r - leastT q) % r.length
theorem byOf_turn {r q : List Int} (h1 : r ≠ []) (h2 : q ≠ []) (e : leastR r = leastR q) : turnOf r (byOf r q) = q := by
  have l : r.length = q.length := by rw [← leastR_len r h1, ← leastR_len q h2, e]
  have e2 : turnOf r (leastT r) = turnOf q (leastT q) := by rw [leastT_turn h1, leastT_turn h2, e]
  have e3 := congrArg (fun s => turnOf s (-leastT q)) e2
  simp only [turnOf_turnOf] at e3
  rw [show leastT q + -leastT q = 0 by omega, turnOf_zero] at e3
  refine Eq.trans (turnOf_congr ?_) e3
  unfold byOf
  rw [Int.emod_emod_of_dvd _ (Int.dvd_refl _)]
  rfl
theorem byOf_range {r : List Int} (q : List Int) (h : r ≠ []) : 0 ≤ byOf r q ∧ byOf r q < r.length := by
  have hp := List.length_pos_iff.mpr h
  exact ⟨Int.emod_nonneg _ (by omega), Int.emod_lt_of_pos _ (by omega)⟩
end RM
set_option Elab.async false
set_option linter.all false
set_option maxRecDepth 100000
set_option maxHeartbeats 1000000
namespace RM
open Ab PySem L2
/-! ### the laws' own numbers -/
def lawMixed (c a w : Int) : Int := ((c + 977 * a) * 48271 + w) % 2147483647
def lawMore (c a w : Int) : Int := lawMixed c a w * (c + 31 * a + 7)
def lawNumber (c a w : Int) : Int := if (10 : Int) ^ 18 ≤ c then c else lawMore c a w * (lawMixed c a w + c + 5) / (1009 + a)
theorem lawMixed_range (c a w : Int) : 0 ≤ lawMixed c a w ∧ lawMixed c a w < 2147483647 := ⟨Int.emod_nonneg _ (by decide), Int.emod_lt_of_pos _ (by decide)⟩
theorem bits_small {i : Int} (h1 : -(2 ^ 64) < i) (h2 : i < 2 ^ 64) : Builtin.Int.intBits i ≤ 64 := PySem.intBits_le_64 h1 h2
theorem mul_left {i j : Int} (h1 : -(2 ^ 64) < i) (h2 : i < 2 ^ 64) : IntMulOk i j := .of_left (bits_small h1 h2)
theorem mul_right {i j : Int} (h1 : -(2 ^ 64) < j) (h2 : j < 2 ^ 64) : IntMulOk i j := .of_right (bits_small h1 h2)
/-- a sum with a small number -/
theorem bits_add {i k : Int} (hk : k.natAbs < 2 ^ 40) : Builtin.Int.intBits (i + k) ≤ Builtin.Int.intBits i + 41 := by
  apply bits_le
  have h := lt_bits i
  generalize Builtin.Int.intBits i = n at *
  have e : (2 : Nat) ^ (n + 41) = 2 ^ n * 2 ^ 41 := Nat.pow_add 2 n 41
  have p : 1 ≤ (2 : Nat) ^ n := Nat.one_le_two_pow
  have t : (i + k).natAbs ≤ i.natAbs + k.natAbs := Int.natAbs_add_le i k
  rw [e]
  generalize (2 : Nat) ^ n = m at *
  have e40 : (2 : Nat) ^ 40 = 1099511627776 := by decide
  have e41 : (2 : Nat) ^ 41 = 2199023255552 := by decide
  rw [e40] at hk
  rw [e41]
  omega
theorem bits_mul {i k : Int} {m : Nat} (hk : k.natAbs < 2 ^ m) : Builtin.Int.intBits (k * i) ≤ Builtin.Int.intBits i + m := by
  apply bits_le
  have h := lt_bits i
  rw [Int.natAbs_mul, Nat.pow_add, Nat.mul_comm]
  exact Nat.mul_lt_mul'' h hk
theorem law_mul_ok {c a w : Int} (hc : Builtin.Int.intBits c ≤ 1048576) (ha : 0 ≤ a ∧ a ≤ 1000000) : IntMulOk (lawMore c a w) (lawMixed c a w + c + 5) := by
  have hm := lawMixed_range c a w
  have e40 : (2 : Nat) ^ 40 = 1099511627776 := by decide
  have h1 : Builtin.Int.intBits (c + (31 * a + 7)) ≤ Builtin.Int.intBits c + 41 := bits_add (by rw [e40]; omega)
  have h2 : Builtin.Int.intBits (c + (lawMixed c a w + 5)) ≤ Builtin.Int.intBits c + 41 := bits_add (by rw [e40]; omega)
  have h3 : Builtin.Int.intBits (lawMore c a w) ≤ Builtin.Int.intBits (c + 31 * a + 7) + 40 := bits_mul (by rw [e40]; omega)
  rw [show c + 31 * a + 7 = c + (31 * a + 7) by omega] at h3
  rw [show lawMixed c a w + c + 5 = c + (lawMixed c a w + 5) by omega]
  exact mul_ok (n := 0) (by omega)
/-- beads of so many colours -/
structure Beads (c : Int) (m : Nat) (r : List Int) : Prop where
  ne : r ≠ []
  le : r.length ≤ m
  nn : ∀ x ∈ r, 0 ≤ x ∧ x < c
theorem Beads.mono {c : Int} {m n : Nat} {r : List Int} (h : Beads c m r) (k : m ≤ n) : Beads c n r := ⟨h.ne, Nat.le_trans h.le k, h.nn⟩
theorem Beads.turn {c b : Int} {m : Nat} {r : List Int} (h : Beads c m r) : Beads c m (turnOf r b) := ⟨turnOf_ne h.ne, by rw [turnOf_len]; exact h.le, fun x hx => h.nn x (turnOf_mem.mp hx)⟩
theorem mem_rep {α : Type} {l : List α} {k : Int} {x : α} (h : x ∈ rep l k) : x ∈ l := by
  unfold rep at h
  obtain ⟨m, h1, h2⟩ := List.mem_flatten.mp h
  rw [List.mem_replicate] at h1
  rw [h1.2] at h2; exact h2
theorem rep_len {α : Type} (l : List α) (k : Int) : (rep l k).length = k.toNat * l.length := by
  unfold rep; simp
/-- a list again and again, cut -/
theorem beads_rep {c k : Int} {m n : Nat} {r : List Int} (h : Beads c m r) (hk : 0 < k) (hn : 0 < n) (hm : n ≤ m) : Beads c m ((rep r k).take n) := by
  have hp := List.length_pos_iff.mpr h.ne
  refine ⟨?_, by rw [List.length_take]; omega, fun x hx => h.nn x (mem_rep (List.mem_of_mem_take hx))⟩
  intro e
  have := congrArg List.length e
  rw [List.length_take, rep_len] at this
  have h2 : 0 < k.toNat := by omega
  have h3 : 0 < k.toNat * r.length := Nat.mul_pos h2 hp
  rw [List.length_nil] at this
  omega
theorem beads_take {c : Int} {m n : Nat} {r : List Int} (h : Beads c m r) (hn : 0 < n) : Beads c m (r.take n) := by
  have hp := List.length_pos_iff.mpr h.ne
  refine ⟨?_, by rw [List.length_take]; have := h.le; omega, fun x hx => h.nn x (List.mem_of_mem_take hx)⟩
  intro e
  have := congrArg List.length e
  rw [List.length_take] at this
  rw [List.length_nil] at this
  omega
theorem beads_set {c x : Int} {m i : Nat} {r : List Int} (h : Beads c m r) (hx : 0 ≤ x ∧ x < c) : Beads c m (r.set i x) := by
  refine ⟨fun e => h.ne ?_, by rw [List.length_set]; exact h.le, fun y hy => ?_⟩
  · have := congrArg List.length e
    rw [List.length_set] at this
    exact List.length_eq_zero_iff.mp this
  · rcases List.mem_or_eq_of_mem_set hy with hy | rfl
    · exact h.nn y hy
    · exact hx
/-- a ring -/
structure Ring (r : List Int) : Prop where
  ne : r ≠ []
  le : r.length ≤ 200
  nn : ∀ x ∈ r, 0 ≤ x
theorem Ring.turn {r : List Int} {b : Int} (h : Ring r) : Ring (turnOf r b) := ⟨turnOf_ne h.ne, by rw [turnOf_len]; exact h.le, fun x hx => h.nn x (turnOf_mem.mp hx)⟩
theorem Ring.of {c : Int} {m : Nat} {r : List Int} (h : Beads c m r) (hm : m ≤ 200) : Ring r := ⟨h.ne, Nat.le_trans h.le hm, fun x hx => (h.nn x hx).1⟩
end RM
set_option Elab.async false
set_option linter.all false
set_option maxRecDepth 100000
set_option maxHeartbeats 2000000
/-! the end of a law over a head by facts, with the script's bits -/
namespace Ab
open PySem PySem.Spec PyProof.Rows L2
theorem fun_of {K : PySem.W.Frag} {x qual : Str} {st : Stmt} {f : Addr} {fd : FuncData} (F : FunD K x qual (defArgs st) (defBody st) (defScope st) [] [] f fd) : Fun K x qual st f fd := by
  obtain ⟨oc, od, dV, kV, doc, pm, an, cdv, ct, osl, e, lk, hcd, hD, _⟩ := F.ex
  rcases hD with ⟨_, rfl⟩ | ⟨z, _⟩
  · exact ⟨⟨oc, od, kV, doc, pm, an, cdv, ct, osl, e, lk, hcd⟩, F.kp⟩
  · exact absurd rfl z
theorem walk_ofEB {l : PySem.W.OpenLaw} {n k : Nat} {q : Program} {loose : List Str} {XP : (Str → Option Value) → Heap → Prop} {YP : World → Heap → Prop} {d : DefRec} {x : Str}
    (hn : l.most = some n) (hn2 : n ≤ sizeLine) (hdf : d.params.defaults = []) (hr : Room k callerA)
    (F : ∀ (w : World) (mg : Str → Option Value) (fa : Addr) (h : Heap), YP w h → h.Ns mainGlobals mg → mg d.name = some (.ref fa) →
      ∃ (K : PySem.W.Frag) (fd : FuncData) (sp : Sp), K.In h ∧ (∀ (s : Shared) (u : Value), BindsTo s fd ⟨[u], []⟩ [(x, u)]) ∧
        (∀ (H : Hp) (a : Addr) (ns : List Int), ns.length ≤ n → (∀ z ∈ ns, Builtin.Int.intBits z ≤ 1048576) → Only H → SqL K H a (ns.map V.int) → sp [.ref a] H (fun v _ => v = .bl true) fun _ _ _ => False) ∧
        ∀ base : Heap, K.In base → base.Ns mainGlobals mg → FnOk l.prog w K mg base CX0 k fa fd [x] sp) :
    PySem.W.WalkO q loose XP YP l.row.toRowW d [] (fun f vs => PySem.call f vs) := by
  refine Att.attach_callB hn hdf fun w s₀ s₁ mg mb fa o pm cd doc a vs ns G Y ho hd hcd hmg hobj hints hlen hbits hg => ?_
  obtain ⟨K, fd, sp, KX, hb, hsp, hF⟩ := F w mg fa _ Y G.T.g hmg
  exact law_call KX G.T.g G.T.b G.T.builtins G.T.nolimit hg hobj hints (Nat.le_trans hlen hn2) hr hF hb (fun H hO hS => hsp H a ns hlen hbits hO hS) fun H e s' z => z
/-- a law's promise: the script alone, True -/
def RLaw (K : PySem.W.Frag) (as : List AV) (a : AV) : Prop := ∃ ns : List Int, as = [.rdo K (ns.map AV.int)] ∧ ns.length ≤ 63 ∧ (∀ z ∈ ns, Builtin.Int.intBits z ≤ 1048576) ∧ a = .bl true
theorem law_sp {K : PySem.W.Frag} (H : Hp) (a : Addr) (ns : List Int) (h1 : ns.length ≤ 63) (h2 : ∀ z ∈ ns, Builtin.Int.intBits z ≤ 1048576) (hS : SqL K H a (ns.map V.int)) : spA (RLaw K) [.ref a] H (fun v _ => v = .bl true) fun _ _ _ => False :=
  ⟨[.rdo K (ns.map AV.int)], .bl true, H, ⟨ns, rfl, h1, h2, rfl⟩, .refl _, .cons ⟨a, _, rfl, hS, reps_of_ints ns⟩ .nil, fun v B' H' _ h => h⟩
end Ab
set_option Elab.async false
set_option linter.all false
set_option maxRecDepth 100000
set_option maxHeartbeats 1000000
namespace Ab
open PySem L2
/-! ### something new of one's own, as an expression -/
def tW (τ : Tau) (sh : Shp) (ls : List (List AV)) : TE := fun σ H Q => ∃ F0 F B, Sta F0 F B σ H τ ∧ ∀ v fp B' H', Ext B H B' H' → OwnAt H B' H' v sh ls fp → Q v H'
def CR (X : Cx) (e : Expr) (τ : Tau) (sh : Shp) (ls : List (List AV)) : Prop := PE X e (tW τ sh ls)
theorem own_fix {B H B' H' : Hp} {v : V} {sh : Shp} {ls : List (List AV)} {fp : List Addr} (x : Ext B H B' H') (o : OwnAt H B' H' v sh ls fp) : ∃ B2, Ext B H B2 H' ∧ (valOf sh ls).p B2 v := by
  have hin : ∀ y, y ∈ fp → (fun y => if y ∈ fp then H' y else B' y) y = H' y := fun y h => if_pos h
  have hout : ∀ y, y ∉ fp → (fun y => if y ∈ fp then H' y else B' y) y = B' y := fun y h => if_neg h
  generalize (fun y => if y ∈ fp then H' y else B' y) = B2 at hin hout
  have gB : Gr B' B2 := fun y u hu => by
    rw [hout y fun m => ?_]
    · exact hu
    · rw [(o.nf y m).2] at hu; cases hu
  refine ⟨B2, ⟨x.b.trans gB, x.h, fun y u hu => ?_, fun y u hu => ?_⟩, valOf_p o gB fun y m u hu => (hin y m).trans hu⟩
  · by_cases m : y ∈ fp
    · rw [hin y m] at hu; exact hu
    · rw [hout y m] at hu; exact x.s y u hu
  · rw [hout y fun m => ?_]
    · exact x.f y u hu
    · rw [(o.nf y m).1] at hu; cases hu
section
variable {X : Cx} {e e1 e2 e3 : Expr} {es : List Expr} {τ : Tau} {a b c : AV} {l m as : List AV} {sts : List Stmt} {N : AE} {pos p p2 : Pos} {sh : Shp} {ls : List (List AV)} {C : Addr} {fs : List (Str × AV)} {f : Str}
theorem cr_of {t : TE} (h : PE X e t) (k : ∀ F0 F B σ H Q, Sta F0 F B σ H τ → (∀ v fp B' H', Ext B H B' H' → OwnAt H B' H' v sh ls fp → Q v H') → t σ H Q) : CR X e τ sh ls :=
  pe_weak h fun σ H Q ⟨F0, F, B, S, q⟩ => k F0 F B σ H Q S q
theorem CR.ce (h : CR X e τ sh ls) : CE X e τ (valOf sh ls) := ce_of h fun F0 F B σ H Q S q => ⟨F0, F, B, S, fun v fp B' H' x o => by
  obtain ⟨B2, x2, hv⟩ := own_fix x o
  exact q v B2 H' x2 hv⟩
theorem CN.cr (h : CN X e τ l) : CR X e τ .bare [l] := cr_of h fun F0 F B σ H Q S q => ⟨F0, F, B, S, fun p xs B' H' x n1 n2 n3 n4 => q (.ref p) [p] B' H' x (ownAt_new n1 n2 n3 n4)⟩
theorem cs_setW (i : Nat) {x : Str} {p' : Pos} (hN : X.N.Nodup) (h : CR X e τ sh ls) (k : N.nx (τ.set i (some (.ow sh ls)))) (hi : X.N[i]? = some x := by rfl) (hx : Loc X.env.scope x := by first | exact Or.inl rfl | exact Or.inr rfl) (hs : swapsWith e (some (.Name x p')) pos.line X.env = pure false := by rfl)
    (hf : X.fn x = true ∨ X.env.scope.names.lookup x = some .local := by first | exact .inl rfl | exact .inr rfl) : CS X (.Assign [.Name x p'] e pos) τ N :=
  cs_of (ps_set hN hi hx h hs hf) fun F0 F B D σ H S L => ⟨F0, F, B, S, fun v fp B' H' y o => L.nx _ B' _ H' k y.b (S.newW y o)⟩
theorem cs_retR (h : CR X e τ sh ls) (k : N.rn (sh, ls)) : CS X (.Return (some e) pos) τ N := cs_of (ps_ret h) fun F0 F B D σ H S L => ⟨F0, F, B, S, fun v fp B' H' x o =>
  L.rn sh ls v fp B' H' k (S.ext.trans x) ⟨o.ex, o.nd, fun y hy => ⟨S.ext.h.back (o.nf y hy).1, (o.nf y hy).2⟩⟩⟩
theorem cr_if {b : Bool} (h : CT X e1 τ b) (h1 : b = true → CR X e2 τ sh ls) (h2 : b = false → CR X e3 τ sh ls) : CR X (.IfExp e1 e2 e3 pos) τ sh ls := by
  have up : ∀ {B H B1 H1 B2 H2 : Hp} {v : V} {fp : List Addr}, Ext B H B1 H1 → OwnAt H1 B2 H2 v sh ls fp → OwnAt H B2 H2 v sh ls fp := fun x o => ⟨o.ex, o.nd, fun y hy => ⟨x.h.back (o.nf y hy).1, (o.nf y hy).2⟩⟩
  cases b with
  | true => exact cr_of (pe_ifExp h (h1 rfl) pe_noway) fun F0 F B σ H Q S q => ⟨F0, F, B, S, fun B1 H1 x1 => iteT ⟨F0, F, B1, S.step x1, fun v fp B2 H2 x2 o => q v fp B2 H2 (x1.trans x2) (up x1 o)⟩⟩
  | false => exact cr_of (pe_ifExp h pe_noway (h2 rfl)) fun F0 F B σ H Q S q => ⟨F0, F, B, S, fun B1 H1 x1 => iteF ⟨F0, F, B1, S.step x1, fun v fp B2 H2 x2 o => q v fp B2 H2 (x1.trans x2) (up x1 o)⟩⟩
theorem cr_call {x : Str} {k : Nat} {R : List AV → Shp × List (List AV) → Prop} (F : Has X.prog X.w X.K X.mg X.base x k (spW R)) (hr : Room k X.A) (ha : CA X (e :: es) τ as) (hR : R as (sh, ls))
    (hg : Gl X x := by rfl) (hdb : (x == ("__debug__" : Str)) = false := by decide) (he : starEach (e :: es) X.env = (false, eval e X.env) :: starEach es X.env := by rfl) (hpl : (backTo pos (starEach es X.env)).any (·.1) = false := by rfl) : CR X (.Call (.Name x p) (e :: es) [] pos) τ sh ls := by
  obtain ⟨f, fd, ps, G, hm, kp, hb⟩ := F.ex
  refine cr_of (pe_call G hr hg hm kp hb .nil pass0 ha hdb he hpl) fun F0 F B σ H Q S q => ⟨F0, F, B, S, fun vs B1 H1 x1 h1 => ?_⟩
  exact ⟨as, sh, ls, B1, hR, x1.s, by rw [List.append_nil]; exact h1, fun v fp B2 H2 x2 o => q v fp B2 H2 (x1.trans x2) ⟨o.ex, o.nd, fun y hy => ⟨x1.h.back (o.nf y hy).1, (o.nf y hy).2⟩⟩⟩
/-- [e1, e2], two new lists in a new list -/
theorem cr_pair (h1 : CN X e1 τ l) (h2 : CN X e2 τ m) (hs1 : starEach [e1, e2] X.env = (false, eval e1 X.env) :: starEach [e2] X.env := by rfl) (hs2 : starEach [e2] X.env = (false, eval e2 X.env) :: starEach [] X.env := by rfl) : CR X (.List [e1, e2] pos) τ .list [l, m] :=
  cr_of (pe_lst (pa_cons h1 (pa_cons h2 pa_nil hs2) hs1)) fun F0 F B σ H Q S q => ⟨F0, F, B, S, fun p1 xs B1 H1 x1 n1 n2 n3 n4 => ⟨F0, F, B1, S.step x1, fun p2 ys B2 H2 x2 m1 m2 m3 m4 => ⟨by simp; decide, fun r hr => by
    have k1 : H2 p1 = some (.lst xs) := x2.h _ _ n3
    have k2 : B2 p1 = none := (x2.f p1 _ n3).trans n2
    have d1 : p1 ≠ p2 := fun z => by rw [z] at n3; rw [m1] at n3; cases n3
    have d2 : r ≠ p1 := fun z => by rw [z] at hr; rw [k1] at hr; cases hr
    have d3 : r ≠ p2 := fun z => by rw [z] at hr; rw [m3] at hr; cases hr
    have hB : B2 r = none := x2.s.back hr
    refine q (.ref r) [r, p1, p2] B2 (upd H2 r (.lst [.ref p1, .ref p2])) ((x1.trans x2).trans (.newO x2.s hr)) ⟨⟨[r], [p1, p2], rfl, .list upd_same, .cons ⟨xs, by rw [upd_ne (Ne.symm d2)]; exact k1, n4.mono x2.b⟩ (.cons ⟨ys, by rw [upd_ne (Ne.symm d3)]; exact m3, m4⟩ .nil)⟩, by simp [d1, d2, d3], fun y hy => ?_⟩
    simp at hy
    rcases hy with rfl | rfl | rfl
    · exact ⟨(x1.trans x2).h.back hr, hB⟩
    · exact ⟨n1, k2⟩
    · exact ⟨x1.h.back m1, m2⟩⟩⟩⟩
/-! ### fields, methods -/
theorem ins_get {B : Hp} : ∀ {fs : List (Str × AV)} {vs : List V}, Reps B vs (fs.map Prod.snd) → fs.lookup f = some a → ∃ w, ((fs.map Prod.fst).zip vs).lookup f = some w ∧ a.p B w
  | [], _, _, h => by cases h
  | (g, b) :: fs, _, .cons h t, e => by
    rw [List.lookup_cons] at e
    rw [List.map_cons, List.zip_cons_cons, List.lookup_cons]
    cases hg : (f == g) with
    | true => rw [hg] at e; simp at e; subst e; exact ⟨_, rfl, h⟩
    | false => rw [hg] at e; exact ins_get t e
theorem ins_none : ∀ {ns : List Str} {vs : List V}, ns.all (fun n => !(f == n)) = true → (ns.zip vs).lookup f = none
  | [], _, _ => by simp
  | _ :: _, [], _ => by simp
  | n :: ns, v :: vs, h => by
    rw [List.all_cons, Bool.and_eq_true] at h
    have h1 : (f == n) = false := by simpa using h.1
    rw [List.zip_cons_cons, List.lookup_cons, h1]
    exact ins_none h.2
theorem c_fld (c : Cls X.K C) (n : NoAttr X.K C f) (h : CE X e τ (.ins C fs)) (hl : fs.lookup f = some a) (hb : attributeBase e f X.env (eval e X.env) = eval e X.env := by rfl) : CE X (.Attribute e f pos) τ a :=
  ce_of (pe_fld h hb) fun F0 F B σ H Q S q => ⟨F0, F, B, S, fun v B1 H1 x1 ⟨p, dx, vs, e1, e2, _, e4⟩ => by
    obtain ⟨w, k1, k2⟩ := ins_get e4 hl
    exact ⟨p, C, dx, _, w, e1, x1.s _ _ e2, c, n, k1, q w B1 H1 x1 k2⟩⟩
/-- the class at C has a method m that keeps sp -/
structure HasM (P : Program) (w : World) (K : PySem.W.Frag) (mg : Str → Option Value) (base : Heap) (C : Addr) (m : Str) (k : Nat) (sp : Sp) : Prop where
  ex : ∃ f fd ps, FnOk P w K mg base CX0 k f fd ps sp ∧ Meth K C m f ∧ Binds K fd ps []
theorem c_meth {m : Str} {k : Nat} {R : List AV → AV → Prop} {pl : Sem Bool} {o : Expr} {apos : Pos} (c : Cls X.K C) (F : HasM X.prog X.w X.K X.mg X.base C m k (spA R)) (hr : Room k X.A) (h : CE X o τ (.ins C fs)) (ha : CA X (e :: es) τ as) (hR : R (.ins C fs :: as) a) (hn : (fs.map Prod.fst).all (fun n => !(m == n)) = true := by first | rfl | decide | with_unfolding_all rfl)
    (hst : starEach (e :: es) X.env = (false, eval e X.env) :: starEach es X.env := by rfl) (hpl : (backTo pos (starEach es X.env)).any (·.1) = false := by rfl)
    (ht : eval (.Call (.Attribute o m apos) (e :: es) [] pos) X.env = (do
      let ov ← eval o X.env
      standAt apos.atName
      let (f, first) ← holding [ov] (getMethod ov m pl)
      callWith pos f first (backTo pos (starEach (e :: es) X.env)) (backToKw pos (keywordEach [] X.env))) := by rfl) : CE X (.Call (.Attribute o m apos) (e :: es) [] pos) τ a := by
  obtain ⟨f, fd, ps, G, hm, hb⟩ := F.ex
  refine ce_of (pe_meth h c hm G hr hb .nil pass0 ha hst hpl ht) fun F0 F B σ H Q S q => ⟨F0, F, B, S, fun v B1 H1 x1 h1 => ?_⟩
  obtain ⟨p, dx, vs, rfl, e2, e3, e4⟩ := id h1
  refine ⟨p, dx, _, rfl, x1.s _ _ e2, ins_none hn, F0, F, B1, S.step x1, fun ws B2 H2 x2 h2 => ?_⟩
  exact ⟨_, a, B2, hR, x2.s, by rw [List.append_nil]; exact .cons ((AV.ins C fs).mono x2.b h1) h2, fun v B3 H3 x3 h3 => q v B3 H3 ((x1.trans x2).trans x3) h3⟩
theorem c_cls {x : Str} (g : X.mg x = some (.ref C)) (hg : Gl X x := by rfl) (hd : (x == ("__debug__" : Str)) = false := by decide) : CE X (.Name x pos) τ (.cst (.ref C)) := c_glob g (v := .ref C) rfl hg hd
/-! ### truths -/
theorem c_eqB {x y : Bool} (h1 : CE X e1 τ (.bl x)) (h2 : CE X e2 τ (.bl y)) : CE X (.Compare e1 [.Eq] [e2] pos) τ (.bl (decide (x = y))) := (ce_op (pe_cmpR op_eq h1 h2 (nomark _)) (r_eq rfl)).is (by cases x <;> cases y <;> rfl)
theorem ct_eqB {x y : Bool} (h1 : CE X e1 τ (.bl x)) (h2 : CE X e2 τ (.bl y)) : CT X (.Compare e1 [.Eq] [e2] pos) τ (decide (x = y)) := (ct_op (pt_cmpR op_eq h1 h2 (nomark _)) (r_eq rfl)).is (by cases x <;> cases y <;> rfl)
theorem ct_neB {x y : Bool} (h1 : CE X e1 τ (.bl x)) (h2 : CE X e2 τ (.bl y)) : CT X (.Compare e1 [.NotEq] [e2] pos) τ (!decide (x = y)) := (ct_op (pt_cmpR op_ne h1 h2 (nomark _)) (r_ne rfl)).is (by cases x <;> cases y <;> rfl)
theorem r_isB {x y : Bool} : R2A (fun x y H Q => ∃ a b, x = .bl a ∧ y = .bl b ∧ Q (.bl (decide (a = b))) H) (.bl x) (.bl y) (.bl (decide (x = y))) := fun u v B H Q g hx hy q => ⟨x, y, hx, hy, q _ B H (.refl g) rfl⟩
theorem r_isnB {x y : Bool} : R2A (fun x y H Q => ∃ a b, x = .bl a ∧ y = .bl b ∧ Q (.bl (!decide (a = b))) H) (.bl x) (.bl y) (.bl (!decide (x = y))) := fun u v B H Q g hx hy q => ⟨x, y, hx, hy, q _ B H (.refl g) rfl⟩
theorem c_isB {x y : Bool} (h1 : CE X e1 τ (.bl x)) (h2 : CE X e2 τ (.bl y)) (hm : lastMarks [.Is] [e2] = false := by with_unfolding_all rfl) : CE X (.Compare e1 [.Is] [e2] pos) τ (.bl (decide (x = y))) := ce_op (pe_cmpR op_is_bl h1 h2 hm) r_isB
theorem ct_isnB {x y : Bool} (h1 : CE X e1 τ (.bl x)) (h2 : CE X e2 τ (.bl y)) (hm : lastMarks [.IsNot] [e2] = false := by with_unfolding_all rfl) : CT X (.Compare e1 [.IsNot] [e2] pos) τ (!decide (x = y)) := ct_op (pt_cmpR op_isnot_bl h1 h2 hm) r_isnB
/-! ### append to a part of what a slot alone holds -/
theorem cs_appF (i k : Nat) {x : Str} {ns : List Str} {px pa pf : Pos} (c : Cls X.K C) (nn : NoAttr X.K C f) (h : CE X e τ a) (hk : ls[k]? = some l) (hz : l.length < 1000000) (q : N.nx (τ.set i (some (.ow (.ins C ns) (ls.set k (l ++ [a]))))))
    (hf : ∀ ps : List Addr, ns.length = ps.length → ∀ p, ps[k]? = some p → (ns.zip (ps.map V.ref)).lookup f = some (.ref p))
    (hN : X.N[i]? = some x := by rfl) (hv : Vis X.env.scope x := by first | exact Or.inl rfl | exact Or.inr (Or.inl rfl) | exact Or.inr (Or.inr rfl)) (ht : τ[i]? = some (some (.ow (.ins C ns) ls)) := by rfl) (hd : (x == ("__debug__" : Str)) = false := by decide) (hcd : (x == ("__classdict__" : Str)) = false := by decide)
    (hb : attributeBase (.Name x px) f X.env (eval (.Name x px) X.env) = eval (.Name x px) X.env := by rfl)
    (pe : ∀ (to : TE) (t : TA), PE X (.Attribute (.Name x px) f pf) to → PA X [e] t → PE X (.Call (.Attribute (.Attribute (.Name x px) f pf) "append" pa) [e] [] p) (tBM X.K "list" rAppend to t) := by exact fun _ _ h1 h2 => pe_bm PySem.F.plainAttrs_list PySem.F.slot_list_append PySem.F.type_list_append mt_append h1 h2)
    (hst : starEach [e] X.env = (false, eval e X.env) :: starEach [] X.env := by rfl)
    (hs : swapsWith (.Call (.Attribute (.Attribute (.Name x px) f pf) "append" pa) [e] [] p) none pos.line X.env = pure false := by rfl) : CS X (.Expr (.Call (.Attribute (.Attribute (.Name x px) f pf) "append" pa) [e] [] p) pos) τ N :=
  cs_of (ps_expr (pe _ _ (pe_fld (pe_var hN hv hd hcd) hb) (pa_cons h pa_nil hst)) hs) fun F0 F B D σ H S L => by
    obtain ⟨v, rs, ps, g1, g2, g3, g4, g5⟩ := S.part ht
    cases g2 with
    | @ins r dx C' ns' ps' e1 e2 e3 =>
      have hlp : ps.length = ls.length := g3.length
      have hkl := (List.getElem?_eq_some_iff.mp hk).1
      have hpk : ps[k]? = some (ps[k]'(by omega)) := List.getElem?_eq_getElem (by omega)
      obtain ⟨xs, w1, w2⟩ : LstAt B H (ps[k]'(by omega)) l := by
        have : ∀ {ps : List Addr} {ls : List (List AV)} (k : Nat) p l, Paired (LstAt B H) ps ls → ps[k]? = some p → ls[k]? = some l → LstAt B H p l := by
          intro ps
          induction ps with
          | nil => intro ls k p l _ z; simp at z
          | cons p0 ps ih =>
            intro ls k p l pr z1 z2
            cases pr with
            | cons q t =>
              cases k with
              | zero => simp at z1 z2; subst z1 z2; exact q
              | succ k => exact ih k p l t (by simpa using z1) (by simpa using z2)
        exact this k _ _ g3 hpk hk
      refine ⟨.ref r, g1, r, C, dx, _, .ref (ps[k]'(by omega)), rfl, e1, c, nn, hf ps e3 _ hpk, .inl ⟨rfl, xs, SqL.of w1⟩, F0, F, B, S, fun v B1 H1 x1 h1 => ?_⟩
      have S1 := S.step x1
      refine ⟨ps[k]'(by omega), xs, v, rfl, rfl, x1.h _ _ w1, by rw [w2.length]; exact Nat.lt_of_lt_of_le hz (by decide), ?_⟩
      obtain ⟨v', rs', ps2, k1, k2, k3, k4, k5⟩ := S1.part ht
      rw [g1] at k1
      cases k1
      cases k2 with
      | ins z1 z2 z3 =>
        have hh := x1.h _ _ e1
        rw [z1] at hh
        have hpp : ps2 = ps := by
          injection hh with hh
          injection hh with _ _ hh
          have hh2 := congrArg (List.map Prod.snd) hh
          rw [List.map_snd_zip (by rw [List.length_map]; omega), List.map_snd_zip (by rw [List.length_map]; omega)] at hh2
          exact (List.map_inj_right (f := V.ref) (fun a b h => by injection h)).mp hh2
        subst hpp
        exact L.nx _ B1 _ _ q x1.b (k5 k _ (l ++ [a]) (xs ++ [v]) hpk ((w2.mono x1.b).append (.cons h1 .nil)))
theorem cs_appI (i k : Nat) {x : Str} {px pa pf pk : Pos} {kk : Nat} (h : CE X e τ a) (hk : ls[k]? = some l) (hz : l.length < 1000000) (q : N.nx (τ.set i (some (.ow .list (ls.set k (l ++ [a]))))))
    (hN : X.N[i]? = some x := by rfl) (hv : Vis X.env.scope x := by first | exact Or.inl rfl | exact Or.inr (Or.inl rfl) | exact Or.inr (Or.inr rfl)) (ht : τ[i]? = some (some (.ow .list ls)) := by rfl) (hd : (x == ("__debug__" : Str)) = false := by decide) (hcd : (x == ("__classdict__" : Str)) = false := by decide)
    (pe : ∀ (to : TE) (t : TA), PE X (.Subscript (.Name x px) (.Constant (.int (k : Nat)) kk pk) pf) to → PA X [e] t → PE X (.Call (.Attribute (.Subscript (.Name x px) (.Constant (.int (k : Nat)) kk pk) pf) "append" pa) [e] [] p) (tBM X.K "list" rAppend to t) := by exact fun _ _ h1 h2 => pe_bm PySem.F.plainAttrs_list PySem.F.slot_list_append PySem.F.type_list_append mt_append h1 h2)
    (hst : starEach [e] X.env = (false, eval e X.env) :: starEach [] X.env := by rfl)
    (hs : swapsWith (.Call (.Attribute (.Subscript (.Name x px) (.Constant (.int (k : Nat)) kk pk) pf) "append" pa) [e] [] p) none pos.line X.env = pure false := by rfl) : CS X (.Expr (.Call (.Attribute (.Subscript (.Name x px) (.Constant (.int (k : Nat)) kk pk) pf) "append" pa) [e] [] p) pos) τ N :=
  cs_of (ps_expr (pe _ _ (pe_ix ix_list (pe_var hN hv hd hcd) pe_int (fun _ _ => rfl)) (pa_cons h pa_nil hst)) hs) fun F0 F B D σ H S L => by
    obtain ⟨v, rs, ps, g1, g2, g3, g4, g5⟩ := S.part ht
    cases g2 with
    | @list r ps' e1 =>
      have hlp : ps.length = ls.length := g3.length
      have hkl := (List.getElem?_eq_some_iff.mp hk).1
      have hpk : ps[k]? = some (ps[k]'(by omega)) := List.getElem?_eq_getElem (by omega)
      obtain ⟨xs, w1, w2⟩ : LstAt B H (ps[k]'(by omega)) l := by
        have : ∀ {ps : List Addr} {ls : List (List AV)} (k : Nat) p l, Paired (LstAt B H) ps ls → ps[k]? = some p → ls[k]? = some l → LstAt B H p l := by
          intro ps
          induction ps with
          | nil => intro ls k p l _ z; simp at z
          | cons p0 ps ih =>
            intro ls k p l pr z1 z2
            cases pr with
            | cons q t =>
              cases k with
              | zero => simp at z1 z2; subst z1 z2; exact q
              | succ k => exact ih k p l t (by simpa using z1) (by simpa using z2)
        exact this k _ _ g3 hpk hk
      refine ⟨.ref r, g1, r, _, (k : Nat), .ref (ps[k]'(by omega)), rfl, rfl, SqL.of e1, atI_nat (j := k) (by rw [List.getElem?_map, hpk]; rfl), .inl ⟨rfl, xs, SqL.of w1⟩, F0, F, B, S, fun v B1 H1 x1 h1 => ?_⟩
      have S1 := S.step x1
      refine ⟨ps[k]'(by omega), xs, v, rfl, rfl, x1.h _ _ w1, by rw [w2.length]; exact Nat.lt_of_lt_of_le hz (by decide), ?_⟩
      obtain ⟨v', rs', ps2, k1, k2, k3, k4, k5⟩ := S1.part ht
      rw [g1] at k1
      cases k1
      cases k2 with
      | list z1 =>
        have hh := x1.h _ _ e1
        rw [z1] at hh
        have hpp : ps2 = ps := by
          injection hh with hh
          injection hh with hh
          exact (List.map_inj_right (f := V.ref) (fun a b h => by injection h)).mp hh
        subst hpp
        exact L.nx _ B1 _ _ q x1.b (k5 k _ (l ++ [a]) (xs ++ [v]) hpk ((w2.mono x1.b).append (.cons h1 .nil)))
/-- read for a while, to make something new of numbers -/
theorem cr_ownI (i : Nat) {sh0 : Shp} {ls0 : List (List AV)} {nss : List (List Int)} (h : CR X e (τ.set i (some (.val (valOf sh0 ls0)))) sh (nss.map fun ns => ns.map AV.int)) (ht : τ[i]? = some (some (.ow sh0 ls0)) := by rfl) (hs : ∀ kvs, sh ≠ .dic kvs := by intro _ h; cases h) : CR X e τ sh (nss.map fun ns => ns.map AV.int) :=
  cr_of h fun F0 F B σ H Q S q => by
    obtain ⟨B1, S'⟩ := sta_peek S ht
    refine ⟨F0, F, B1, S', fun v fp B' H' x o => q v fp B H' (ext_back S.gr x) ?_⟩
    obtain ⟨rs, ps, e, r, pr⟩ := o.ex
    have r' : Root B H' sh v rs ps := by
      cases r with
      | bare p => exact .bare p
      | list e => exact .list e
      | ins e h1 hl => exact .ins e h1 hl
      | dic e h => exact absurd rfl (hs _)
    refine ⟨⟨rs, ps, e, r', ?_⟩, o.nd, fun y hy => ⟨(o.nf y hy).1, S.gr.back (o.nf y hy).1⟩⟩
    clear e r r' o q h
    induction nss generalizing ps with
    | nil => cases pr; exact .nil
    | cons ns nss ih =>
      cases pr with
      | cons z t =>
        obtain ⟨xs, h1, h2⟩ := z
        rw [reps_ints h2] at h1
        exact .cons ⟨_, h1, reps_of_ints _⟩ (ih _ t)
end
end Ab
set_option Elab.async false
set_option linter.all false
set_option maxRecDepth 100000
set_option maxHeartbeats 1000000
namespace Ab
open PySem L2
/-! ### the answers' classes: Turned(by), Unlike(mine, theirs) -/
def spInitT (C : Addr) : Sp := fun vs H Q _ => ∃ (x dx : Addr) (b : V), vs = [.ref x, b] ∧ H x = some (.ins C dx []) ∧ Q .non (upd H x (.ins C dx [("by", b)]))
def spInitU (C : Addr) : Sp := fun vs H Q _ => ∃ (x dx m t : Addr) (ms ts : List V), vs = [.ref x, .ref m, .ref t] ∧ H x = some (.ins C dx []) ∧ H m = some (.lst ms) ∧ H t = some (.lst ts) ∧
  ∀ p q, H p = none → H q = none → p ≠ q → Q .non (upd (upd (upd H p (.lst ms)) q (.lst ts)) x (.ins C dx [("mine", .ref p), ("theirs", .ref q)]))
structure Mak (P : Program) (w : World) (K : PySem.W.Frag) (mg : Str → Option Value) (base : Heap) (x : Str) (C : Addr) (ps : List Str) (sp : Sp) : Prop where
  ex : ∃ f fd, Mk K C f ∧ FnOk P w K mg base CX0 1 f fd ps sp ∧ Binds K fd ps []
  at_ : mg x = some (.ref C)
theorem upd_twice (H : Hp) (x : Addr) (o u : HO) : upd (upd H x o) x u = upd H x u := by
  funext y
  by_cases h : y = x
  · subst h; rw [upd_same, upd_same]
  · rw [upd_ne h, upd_ne h, upd_ne h]
section
variable {X : Cx} {e e1 e2 : Expr} {τ : Tau} {a : AV} {l m : List AV} {pos p : Pos} {C : Addr}
theorem c_mkT (M : Mak X.prog X.w X.K X.mg X.base "Turned" C ["self", "by"] (spInitT C)) (hr : Room 2 X.A) (h : CE X e τ a) (hg : Gl X "Turned" := by rfl) (he : starEach [e] X.env = (false, eval e X.env) :: starEach [] X.env := by rfl) (hpl : (backTo pos (starEach [] X.env)).any (·.1) = false := by rfl) :
    CE X (.Call (.Name "Turned" p) [e] [] pos) τ (.ins C [("by", a)]) := by
  obtain ⟨f, fd, k, F, hb⟩ := M.ex
  refine ce_of (pe_make k F hr hg M.at_ hb .nil pass0 (ca_cons h ca_nil he) (by decide) he hpl) fun F0 F B σ H Q S q => ⟨F0, F, B, S, fun vs B1 H1 x1 h1 x dx hx hd hne => ?_⟩
  obtain ⟨v, rfl, hv⟩ := reps1 h1
  refine ⟨x, dx, v, rfl, upd_same, rfl, ?_⟩
  rw [upd_twice]
  have n1 : (upd H1 dx (.own x)) x = none := by rw [upd_ne (Ne.symm hne)]; exact hx
  have y1 : Ext B1 H1 (upd B1 dx (.own x)) (upd H1 dx (.own x)) := .new x1.s hd
  have y2 : Ext (upd B1 dx (.own x)) (upd H1 dx (.own x)) (upd (upd B1 dx (.own x)) x (.ins C dx [("by", v)])) (upd (upd H1 dx (.own x)) x (.ins C dx [("by", v)])) := .new y1.s n1
  refine q (.ref x) _ _ (x1.trans (y1.trans y2)) ⟨x, dx, [v], rfl, upd_same, by rw [upd_ne hne]; exact upd_same, .cons (a.mono (y1.b.trans y2.b) hv) .nil⟩
theorem cr_mkU (M : Mak X.prog X.w X.K X.mg X.base "Unlike" C ["self", "mine", "theirs"] (spInitU C)) (hr : Room 2 X.A) (h1 : CE X e1 τ (.lst l)) (h2 : CE X e2 τ (.lst m)) (hg : Gl X "Unlike" := by rfl) (he : starEach [e1, e2] X.env = (false, eval e1 X.env) :: starEach [e2] X.env := by rfl) (he2 : starEach [e2] X.env = (false, eval e2 X.env) :: starEach [] X.env := by rfl)
    (hpl : (backTo pos (starEach [e2] X.env)).any (·.1) = false := by rfl) :
    CR X (.Call (.Name "Unlike" p) [e1, e2] [] pos) τ (.ins C ["mine", "theirs"]) [l, m] := by
  obtain ⟨f, fd, k, F, hb⟩ := M.ex
  refine cr_of (pe_make k F hr hg M.at_ hb .nil pass0 (ca_cons h1 (ca_cons h2 ca_nil he2) he) (by decide) he hpl) fun F0 F B σ H Q S q => ⟨F0, F, B, S, fun vs B1 H1 x1 h1 x dx hx hd hne => ?_⟩
  obtain ⟨v, w, rfl, ⟨a1, xs, rfl, k1, k2⟩, ⟨a2, ys, rfl, k3, k4⟩⟩ := reps2 h1
  have hk1 := x1.s _ _ k1
  have hk3 := x1.s _ _ k3
  have up : ∀ {y : Addr} {o : HO}, H1 y = some o → upd (upd H1 dx (.own x)) x (.ins C dx []) y = some o := fun {y o} h => by
    rw [upd_ne fun z => ?_, upd_ne fun z => ?_]
    · exact h
    · rw [z, hd] at h; cases h
    · rw [z, hx] at h; cases h
  refine ⟨x, dx, a1, a2, xs, ys, rfl, upd_same, up hk1, up hk3, fun p q' hp hq hpq => ⟨rfl, ?_⟩⟩
  have dpx : p ≠ x := fun z => by rw [z, upd_same] at hp; cases hp
  have dqx : q' ≠ x := fun z => by rw [z, upd_same] at hq; cases hq
  have dpd : p ≠ dx := fun z => by rw [z, upd_ne hne, upd_same] at hp; cases hp
  have dqd : q' ≠ dx := fun z => by rw [z, upd_ne hne, upd_same] at hq; cases hq
  have hp1 : H1 p = none := by rw [upd_ne dpx, upd_ne dpd] at hp; exact hp
  have hq1 : H1 q' = none := by rw [upd_ne dqx, upd_ne dqd] at hq; exact hq
  have gr : Gr H1 (upd (upd (upd (upd (upd H1 dx (.own x)) x (.ins C dx [])) p (.lst xs)) q' (.lst ys)) x (.ins C dx [("mine", .ref p), ("theirs", .ref q')])) := fun y o hy => by
    rw [upd_ne fun z => ?_, upd_ne fun z => ?_, upd_ne fun z => ?_, up hy]
    · rw [z, hp1] at hy; cases hy
    · rw [z, hq1] at hy; cases hy
    · rw [z, hx] at hy; cases hy
  have eB : Ext B1 H1 B1 (upd (upd (upd (upd (upd H1 dx (.own x)) x (.ins C dx [])) p (.lst xs)) q' (.lst ys)) x (.ins C dx [("mine", .ref p), ("theirs", .ref q')])) := ⟨.refl _, gr, x1.s.trans gr, fun _ _ _ => rfl⟩
  refine q (.ref x) [x, dx, p, q'] B1 _ (x1.trans eB) ⟨⟨[x, dx], [p, q'], rfl, .ins upd_same ?_ rfl, .cons ⟨xs, ?_, k2⟩ (.cons ⟨ys, ?_, k4⟩ .nil)⟩, ?_, fun y hy => ?_⟩
  · rw [upd_ne hne, upd_ne (Ne.symm dqd), upd_ne (Ne.symm dpd), upd_ne hne, upd_same]
  · rw [upd_ne dpx, upd_ne hpq, upd_same]
  · rw [upd_ne dqx, upd_same]
  · simp [hpq, Ne.symm dpx, Ne.symm dqx, Ne.symm dpd, Ne.symm dqd, Ne.symm hne]
  · simp at hy
    rcases hy with rfl | rfl | rfl | rfl
    · exact ⟨x1.h.back hx, x1.s.back hx⟩
    · exact ⟨x1.h.back hd, x1.s.back hd⟩
    · exact ⟨x1.h.back hp1, x1.s.back hp1⟩
    · exact ⟨x1.h.back hq1, x1.s.back hq1⟩
/-- what a class's instances' type is -/
structure InsT (K : PySem.W.Frag) (C : Addr) : Prop where
  cl : Cls K C
  ha : PySem.W.findIn K (.ref C) "__class__" = some (some (.builtin "object.__class__"))
  hn : PySem.W.specialIn K (.builtin "object.__class__") "__get__" = some (some (.builtin "getset_descriptor.__get__"))
  ht : PySem.W.takesIn K (.builtin "object.__class__") = some true
  hm : PySem.W.mroIn K C (.type "object") = some true
theorem ty_ins {K : PySem.W.Frag} (i : InsT K C) (fs : List (Str × AV)) : ∀ B x, (AV.ins C fs).p B x → ∀ H, Gr B H → TyX K H x (.ref C) := fun B x h H g => by
  obtain ⟨a, dx, vs, rfl, h1, _⟩ := h
  exact .base (.ins (g _ _ h1) i.cl i.ha i.hn i.ht i.hm)
end
/-! ### the head's facts, and more -/
def clsB (K : PySem.W.Frag) (x : Str) : Bool := He.eqO (PySem.W.findIn K (.ref (He.ga K x)) "__class__") (some (some (.builtin "object.__class__"))) &&
  (He.eqO (PySem.W.specialIn K (.builtin "object.__class__") "__get__") (some (some (.builtin "getset_descriptor.__get__"))) && (decide (PySem.W.takesIn K (.builtin "object.__class__") = some true) && decide (PySem.W.mroIn K (He.ga K x) (.type "object") = some true)))
def kitB (K : PySem.W.Frag) (x y : Str) (b : Bool) : Bool := decide (PySem.W.kitOne K (.ref (He.ga K x)) (.ref (He.ga K y)) = some b)
theorem clsB_ok {K : PySem.W.Frag} {x : Str} (c : Cls K (He.ga K x)) (h : clsB K x = true) : InsT K (He.ga K x) := by
  obtain ⟨h1, h⟩ := He.ba h
  obtain ⟨h2, h⟩ := He.ba h
  obtain ⟨h3, h4⟩ := He.ba h
  exact ⟨c, He.eqO_ok h1, He.eqO_ok h2, of_decide_eq_true h3, of_decide_eq_true h4⟩
theorem kitB_ok {K : PySem.W.Frag} {x y : Str} {b : Bool} (h : kitB K x y b = true) : PySem.W.kitOne K (.ref (He.ga K x)) (.ref (He.ga K y)) = some b := of_decide_eq_true h
def hookX (n : Nat) (fa : List He.Fa) (fn : List He.DefD) (ex : PySem.W.Frag → Bool) : PySem.W.Hook where
  α := He.AlD × Bool
  obs := fun s => let K := He.frG s.heap.get? (He.asD s.heap.get? n); (He.obsD fa fn K, ex K)
  val := fun _ => (He.valD fn, true)
  says := fun _ h => ∃ K : PySem.W.Frag, K.In h ∧ He.SaysD fa fn K ∧ ex K = true
  of := fun _ _ e => ⟨_, He.frG_in, congrArg Prod.fst e, congrArg Prod.snd e⟩
  keeps := fun _ _ _ ⟨K, hK, c⟩ k => ⟨K, PySem.W.Frag.In.keeps hK k, c⟩
def obsXG (n : Nat) (fa : List He.Fa) (fn : List He.DefD) (ex : PySem.W.Frag → Bool) (g : Addr → Option Obj) : He.AlD × Bool := let K := He.frG g (He.asD g n); (He.obsD fa fn K, ex K)
theorem obsXG_eq {n : Nat} {fa : List He.Fa} {fn : List He.DefD} {ex : PySem.W.Frag → Bool} {g : Addr → Option Obj} {s : Shared} (h : ∀ a, g a = s.heap.get? a) : obsXG n fa fn ex g = (hookX n fa fn ex).obs s := by
  have e : g = s.heap.get? := funext h
  rw [e] <;> rfl
/-- the built-ins that a text leaves as they are -/
structure Tops (mg : Str → Option Value) : Prop where
  len : mg "len" = none
  isinstance : mg "isinstance" = none
  int : mg "int" = none
  bool : mg "bool" = none
  list : mg "list" = none
  all : mg "all" = none
  min : mg "min" = none
  sum : mg "sum" = none
  range : mg "range" = none
  enumerate : mg "enumerate" = none
  max : mg "max" = none
  zip : mg "zip" = none
  str : mg "str" = none
  tuple : mg "tuple" = none
  abs : mg "abs" = none
end Ab
set_option Elab.async false
set_option linter.all false
set_option maxRecDepth 100000
set_option maxHeartbeats 1000000
namespace Ab
open PySem L2
/-! ### more of lists: extend, count of rows, x[i] += e -/
section
variable {X : Cx} {e e1 e2 : Expr} {es : List Expr} {τ : Tau} {a b : AV} {l m : List AV} {N : AE} {pos p p2 : Pos}
theorem cs_ext (i : Nat) {x : Str} {px pa : Pos} (h : CE X e τ (.lst m)) (hz : l.length + m.length ≤ 1000000) (k : N.nx (τ.set i (some (.own (l ++ m)))))
    (hN : X.N[i]? = some x := by rfl) (hv : Vis X.env.scope x := by first | exact Or.inl rfl | exact Or.inr (Or.inl rfl) | exact Or.inr (Or.inr rfl)) (ht : τ[i]? = some (some (.own l)) := by rfl) (hd : (x == ("__debug__" : Str)) = false := by decide) (hcd : (x == ("__classdict__" : Str)) = false := by decide)
    (pe : ∀ (to : TE) (t : TA), PE X (.Name x px) to → PA X [e] t → PE X (.Call (.Attribute (.Name x px) "extend" pa) [e] [] p) (tBM X.K "list" rExtend to t) := by exact fun _ _ h1 h2 => pe_bm PySem.F.plainAttrs_list PySem.F.slot_list_extend PySem.F.type_list_extend mt_extend h1 h2)
    (hst : starEach [e] X.env = (false, eval e X.env) :: starEach [] X.env := by rfl)
    (hs : swapsWith (.Call (.Attribute (.Name x px) "extend" pa) [e] [] p) none pos.line X.env = pure false := by rfl) : CS X (.Expr (.Call (.Attribute (.Name x px) "extend" pa) [e] [] p) pos) τ N :=
  cs_of (ps_expr (pe _ _ (pe_var hN hv hd hcd) (pa_cons h pa_nil hst)) hs) fun F0 F B D σ H S L => by
    obtain ⟨p, xs, g1, g2, g3, g4, g5⟩ := S.own ht
    refine ⟨.ref p, g1, .inl ⟨rfl, xs, SqL.of g4⟩, F0, F, B, S, fun v B1 H1 x1 h1 => ?_⟩
    have S1 := S.step x1
    obtain ⟨p', xs', g1', g2', g3', g4', g5'⟩ := S1.own ht
    rw [g1] at g1'
    cases g1'
    obtain ⟨q, ys, rfl, k1, k2⟩ := h1
    refine ⟨p, q, xs', ys, rfl, rfl, g4', x1.s _ _ k1, by rw [g5'.length, k2.length]; exact Nat.le_trans hz (by decide), ?_⟩
    exact L.nx _ B1 _ _ k x1.b (S1.chg ht g1 (g5'.append k2))
/-- rows.count(row) -/
def rCntD (K : PySem.W.Frag) : V → List V → Hp → VK → Prop := fun x xs H Q => ∃ (p : Addr) (y : V) (d : PyData) (ds : List PyData), x = .ref p ∧ xs = [y] ∧ Dp K H (.ref p) (.list ds) ∧ Dp K H y d ∧ SeqAt.shaped (.list ds) = true ∧ SeqAt.shaped d = true ∧ Q (.int ((ds.countP fun z => PyData.eqv z d : Nat) : Int)) H
section
open PySem.Spec PyProof.Rows
theorem mt_cntD (hu : X.A.units + 65 < cLine) : MtR X "list.count" (rCntD X.K) := by
  intro pins s σ H x xs v us Q I rx rxs h
  obtain ⟨a, y, d, ds, rfl, rfl, hl, hy, sl, sd, q⟩ := h
  cases rx
  cases rxs with
  | cons ry rt =>
    rename_i uy ut
    cases rt
    obtain ⟨bs, r1⟩ := Dp.reads I d y uy hy ry
    have hxs : PyData.canLayAll0 ds = true := SeqAt.canLay_of_shaped sl
    have hroom : X.A.units + 1 + min (PyData.depthAll ds) d.depth < cLine := room_in_shaped sd hu
    cases hl with
    | lst hs ha =>
      obtain ⟨its, rv, hl, hlen⟩ := I.list hs
      obtain ⟨as, h4⟩ := Dp.readsAll I ds _ its ha rv
      refine SeqAt.count_list_data (xs := ds) (as := as) (bs := bs) (d := d) hl.isList (show ReadsAll s.heap its.toArray.toList ds as from h4) r1 (PyData.plainAll_of_canLay0 ds hxs) (PyData.plain_of_canLay0 d (SeqAt.canLay_of_shaped sd)) hroom ?_
      exact ⟨.int ((ds.countP fun z => PyData.eqv z d : Nat) : Int), H, I.tok _, ⟨_, rfl⟩, q⟩
end
theorem c_countR {rs : List (List Int)} {r : List Int} {pa : Pos} (hu : X.A.units + 65 < cLine) (h1 : CE X e1 τ (.ll rs)) (h2 : CE X e2 τ (.il r))
    (pe : ∀ (to : TE) (t : TA), MtR X "list.count" (rCntD X.K) → PE X e1 to → PA X [e2] t → PE X (.Call (.Attribute e1 "count" pa) [e2] [] p) (tBM X.K "list" (rCntD X.K) to t) := by exact fun _ _ hm h1 h2 => pe_bm PySem.F.plainAttrs_list PySem.F.slot_list_count PySem.F.type_list_count hm h1 h2)
    (hst : starEach [e2] X.env = (false, eval e2 X.env) :: starEach [] X.env := by rfl) : CE X (.Call (.Attribute e1 "count" pa) [e2] [] p) τ (.int (rs.count r : Nat)) :=
  ce_of (pe _ _ (mt_cntD hu) h1 (ca_cons h2 ca_nil hst)) fun F0 F B σ H Q S q => ⟨F0, F, B, S, fun v B1 H1 x1 k1 => by
    obtain ⟨a, xs, rfl, m1, m2⟩ := id k1
    refine ⟨.inl ⟨rfl, xs, SqL.of (x1.s _ _ m1)⟩, F0, F, B1, S.step x1, fun vs B2 H2 x2 k2 => ?_⟩
    obtain ⟨w, rfl, k3⟩ := reps1 k2
    refine ⟨a, w, dI r, rs.map dI, rfl, rfl, dp_gr x2.s _ _ (dp_gr x2.b _ _ (isd_ll (K := X.K) rs B1 _ k1)), dp_gr x2.s _ _ (isd_il (K := X.K) r B2 _ k3), shaped_ll rs, shaped_il r, q _ B2 H2 (x1.trans x2) ?_⟩
    have e : (rs.map dI).countP (fun z => PyData.eqv z (dI r)) = rs.count r := by
      rw [List.countP_map]
      apply List.countP_congr
      intro z _
      show PyData.eqv (dI z) (dI r) = true ↔ _
      rw [eqv_il]; simp
    rw [e]
    rfl⟩
/-- x[i] += e, x a slot's own list of numbers -/
theorem get_list : PGet X (fun o i H Q => ∃ p xs k v, o = .ref p ∧ i = .int k ∧ SqL X.K H p xs ∧ 0 ≤ k ∧ xs[k.toNat]? = some v ∧ Q v H) := by
  intro pins s σ H o i ov iv Q I ro ri h
  obtain ⟨p, xs, k, v, rfl, rfl, hq, h0, he, q⟩ := h
  cases ro
  obtain ⟨t, rfl⟩ := ri
  obtain ⟨its, r, pl, hz⟩ := I.list hq
  obtain ⟨w, ew, rw'⟩ := r.get he
  have hl := r.length
  have hn := line63
  have hlt := (List.getElem?_eq_some_iff.mp ew).1
  exact PyProof.Rows.getItem_listL pl.isList h0 (by omega) ew ⟨v, H, I, rw', q⟩
theorem cs_augI (i : Nat) {x : Str} {p' : Pos} {ns : List Int} {k d : Int} (h1 : CE X e1 τ (.int k)) (h2 : CE X e2 τ (.int d)) (h0 : 0 ≤ k) (hk : k < ns.length) (q : N.nx (τ.set i (some (.own ((ns.set k.toNat (nth ns k + d)).map AV.int)))))
    (hN : X.N[i]? = some x := by rfl) (hv : Vis X.env.scope x := by first | exact Or.inl rfl | exact Or.inr (Or.inl rfl) | exact Or.inr (Or.inr rfl)) (ht : τ[i]? = some (some (.own (ns.map AV.int))) := by rfl) (hd : (x == ("__debug__" : Str)) = false := by decide) (hcd : (x == ("__classdict__" : Str)) = false := by decide)
    (ha : ∀ ov iv new, augStore e1 ov iv new = (do holding [new, ov, iv] (setItem ov iv new); release [new, ov, iv] []; pure .next) := by intros; rfl) :
    CS X (.AugAssign (.Subscript (.Name x p') e1 p2) .Add e2 pos) τ N :=
  cs_of (ps_augS (pe_var hN hv hd hcd) h1 get_list h2 ip_add set_list ha) fun F0 F B D σ H S L => by
    obtain ⟨p, xs, g1, g2, g3, g4, g5⟩ := S.own ht
    refine ⟨.ref p, g1, F0, F, B, S, fun w B1 H1 x1 hw => ?_⟩
    have S1 := S.step x1
    have w1 : H1 p = some (.lst xs) := x1.h _ _ g4
    have ex : xs = ns.map V.int := reps_ints g5
    have hkn : k.toNat < ns.length := by omega
    have ew : w = .int k := hw
    refine ⟨p, xs, k, .int (nth ns k), rfl, ew, SqL.of w1, h0, ?_, F0, F, B1, S1, fun u B2 H2 x2 hu => ?_⟩
    · rw [ex, List.getElem?_map, List.getElem?_eq_getElem hkn]; unfold nth; rw [List.getElem?_eq_getElem hkn]; rfl
    have S2 := S1.step x2
    have eu : u = .int d := hu
    refine ⟨nth ns k, d, rfl, eu, ?_⟩
    refine ⟨p, xs, k, k.toNat, rfl, ew, x2.h _ _ w1, ?_, ?_⟩
    · rw [ex, List.length_map]; exact ixN_of h0 hk
    · have hr : Reps B2 (xs.set k.toNat (.int (nth ns k + d))) ((ns.set k.toNat (nth ns k + d)).map AV.int) := by
        rw [ex, ← List.map_set]; exact reps_of_ints _
      exact L.nx _ B2 _ _ q (x1.b.trans x2.b) (S2.chg ht g1 hr)
end
end Ab
set_option Elab.async false
set_option linter.all false
set_option maxRecDepth 100000
set_option maxHeartbeats 1000000
namespace RM
open Ab
/-! ### numbers that go into one, and how many have nothing in common with one -/
def rngN (n : Nat) : List Nat := (List.range n).map (1 + ·)
def divsN (n : Nat) : List Nat := (rngN n).filter fun b => decide (n % b = 0)
def phiN (n : Nat) : Nat := ((rngN n).filter fun b => decide (Nat.gcd n b = 1)).length
/-- for each length its divisors, each with phi of the other part -/
def tbl0 : List (Nat × List (Nat × Nat)) := [(1, [(1, 1)]), (2, [(1, 1), (2, 1)]), (3, [(1, 2), (3, 1)]), (4, [(1, 2), (2, 1), (4, 1)]), (5, [(1, 4), (5, 1)]), (6, [(1, 2), (2, 2), (3, 1), (6, 1)]), (7, [(1, 6), (7, 1)]), (8, [(1, 4), (2, 2), (4, 1), (8, 1)]), (9, [(1, 6), (3, 2), (9, 1)]), (10, [(1, 4), (2, 4), (5, 1), (10, 1)]), (11, [(1, 10), (11, 1)]), (12, [(1, 4), (2, 2), (3, 2), (4, 2), (6, 1), (12, 1)]), (13, [(1, 12), (13, 1)]), (14, [(1, 6), (2, 6), (7, 1), (14, 1)]), (15, [(1, 8), (3, 4), (5, 2), (15, 1)]), (16, [(1, 8), (2, 4), (4, 2), (8, 1), (16, 1)]), (17, [(1, 16), (17, 1)]), (18, [(1, 6), (2, 6), (3, 2), (6, 2), (9, 1), (18, 1)]), (19, [(1, 18), (19, 1)]), (20, [(1, 8), (2, 4), (4, 4), (5, 2), (10, 1), (20, 1)]), (21, [(1, 12), (3, 6), (7, 2), (21, 1)]), (22, [(1, 10), (2, 10), (11, 1), (22, 1)]), (23, [(1, 22), (23, 1)]), (24, [(1, 8), (2, 4), (3, 4), (4, 2), (6, 2), (8, 2), (12, 1), (24, 1)]), (25, [(1, 20), (5, 4), (25, 1)])]
def tbl1 : List (Nat × List (Nat × Nat)) := [(26, [(1, 12), (2, 12), (13, 1), (26, 1)]), (27, [(1, 18), (3, 6), (9, 2), (27, 1)]), (28, [(1, 12), (2, 6), (4, 6), (7, 2), (14, 1), (28, 1)]), (29, [(1, 28), (29, 1)]), (30, [(1, 8), (2, 8), (3, 4), (5, 2), (6, 4), (10, 2), (15, 1), (30, 1)]), (31, [(1, 30), (31, 1)]), (32, [(1, 16), (2, 8), (4, 4), (8, 2), (16, 1), (32, 1)]), (33, [(1, 20), (3, 10), (11, 2), (33, 1)]), (34, [(1, 16), (2, 16), (17, 1), (34, 1)]), (35, [(1, 24), (5, 6), (7, 4), (35, 1)]), (36, [(1, 12), (2, 6), (3, 4), (4, 6), (6, 2), (9, 2), (12, 2), (18, 1), (36, 1)]), (37, [(1, 36), (37, 1)]), (38, [(1, 18), (2, 18), (19, 1), (38, 1)]), (39, [(1, 24), (3, 12), (13, 2), (39, 1)]), (40, [(1, 16), (2, 8), (4, 4), (5, 4), (8, 4), (10, 2), (20, 1), (40, 1)]), (41, [(1, 40), (41, 1)]), (42, [(1, 12), (2, 12), (3, 6), (6, 6), (7, 2), (14, 2), (21, 1), (42, 1)]), (43, [(1, 42), (43, 1)]), (44, [(1, 20), (2, 10), (4, 10), (11, 2), (22, 1), (44, 1)]), (45, [(1, 24), (3, 8), (5, 6), (9, 4), (15, 2), (45, 1)]), (46, [(1, 22), (2, 22), (23, 1), (46, 1)]), (47, [(1, 46), (47, 1)]), (48, [(1, 16), (2, 8), (3, 8), (4, 4), (6, 4), (8, 2), (12, 2), (16, 2), (24, 1), (48, 1)]), (49, [(1, 42), (7, 6), (49, 1)]), (50, [(1, 20), (2, 20), (5, 4), (10, 4), (25, 1), (50, 1)])]
def tbl2 : List (Nat × List (Nat × Nat)) := [(51, [(1, 32), (3, 16), (17, 2), (51, 1)]), (52, [(1, 24), (2, 12), (4, 12), (13, 2), (26, 1), (52, 1)]), (53, [(1, 52), (53, 1)]), (54, [(1, 18), (2, 18), (3, 6), (6, 6), (9, 2), (18, 2), (27, 1), (54, 1)]), (55, [(1, 40), (5, 10), (11, 4), (55, 1)]), (56, [(1, 24), (2, 12), (4, 6), (7, 4), (8, 6), (14, 2), (28, 1), (56, 1)]), (57, [(1, 36), (3, 18), (19, 2), (57, 1)]), (58, [(1, 28), (2, 28), (29, 1), (58, 1)]), (59, [(1, 58), (59, 1)]), (60, [(1, 16), (2, 8), (3, 8), (4, 8), (5, 4), (6, 4), (10, 2), (12, 4), (15, 2), (20, 2), (30, 1), (60, 1)]), (61, [(1, 60), (61, 1)]), (62, [(1, 30), (2, 30), (31, 1), (62, 1)]), (63, [(1, 36), (3, 12), (7, 6), (9, 6), (21, 2), (63, 1)]), (64, [(1, 32), (2, 16), (4, 8), (8, 4), (16, 2), (32, 1), (64, 1)]), (65, [(1, 48), (5, 12), (13, 4), (65, 1)]), (66, [(1, 20), (2, 20), (3, 10), (6, 10), (11, 2), (22, 2), (33, 1), (66, 1)]), (67, [(1, 66), (67, 1)]), (68, [(1, 32), (2, 16), (4, 16), (17, 2), (34, 1), (68, 1)]), (69, [(1, 44), (3, 22), (23, 2), (69, 1)]), (70, [(1, 24), (2, 24), (5, 6), (7, 4), (10, 6), (14, 4), (35, 1), (70, 1)]), (71, [(1, 70), (71, 1)]), (72, [(1, 24), (2, 12), (3, 8), (4, 6), (6, 4), (8, 6), (9, 4), (12, 2), (18, 2), (24, 2), (36, 1), (72, 1)]), (73, [(1, 72), (73, 1)]), (74, [(1, 36), (2, 36), (37, 1), (74, 1)]), (75, [(1, 40), (3, 20), (5, 8), (15, 4), (25, 2), (75, 1)])]
def tbl3 : List (Nat × List (Nat × Nat)) := [(76, [(1, 36), (2, 18), (4, 18), (19, 2), (38, 1), (76, 1)]), (77, [(1, 60), (7, 10), (11, 6), (77, 1)]), (78, [(1, 24), (2, 24), (3, 12), (6, 12), (13, 2), (26, 2), (39, 1), (78, 1)]), (79, [(1, 78), (79, 1)]), (80, [(1, 32), (2, 16), (4, 8), (5, 8), (8, 4), (10, 4), (16, 4), (20, 2), (40, 1), (80, 1)]), (81, [(1, 54), (3, 18), (9, 6), (27, 2), (81, 1)]), (82, [(1, 40), (2, 40), (41, 1), (82, 1)]), (83, [(1, 82), (83, 1)]), (84, [(1, 24), (2, 12), (3, 12), (4, 12), (6, 6), (7, 4), (12, 6), (14, 2), (21, 2), (28, 2), (42, 1), (84, 1)]), (85, [(1, 64), (5, 16), (17, 4), (85, 1)]), (86, [(1, 42), (2, 42), (43, 1), (86, 1)]), (87, [(1, 56), (3, 28), (29, 2), (87, 1)]), (88, [(1, 40), (2, 20), (4, 10), (8, 10), (11, 4), (22, 2), (44, 1), (88, 1)]), (89, [(1, 88), (89, 1)]), (90, [(1, 24), (2, 24), (3, 8), (5, 6), (6, 8), (9, 4), (10, 6), (15, 2), (18, 4), (30, 2), (45, 1), (90, 1)]), (91, [(1, 72), (7, 12), (13, 6), (91, 1)]), (92, [(1, 44), (2, 22), (4, 22), (23, 2), (46, 1), (92, 1)]), (93, [(1, 60), (3, 30), (31, 2), (93, 1)]), (94, [(1, 46), (2, 46), (47, 1), (94, 1)]), (95, [(1, 72), (5, 18), (19, 4), (95, 1)]), (96, [(1, 32), (2, 16), (3, 16), (4, 8), (6, 8), (8, 4), (12, 4), (16, 2), (24, 2), (32, 2), (48, 1), (96, 1)]), (97, [(1, 96), (97, 1)]), (98, [(1, 42), (2, 42), (7, 6), (14, 6), (49, 1), (98, 1)]), (99, [(1, 60), (3, 20), (9, 10), (11, 6), (33, 2), (99, 1)]), (100, [(1, 40), (2, 20), (4, 20), (5, 8), (10, 4), (20, 4), (25, 2), (50, 1), (100, 1)])]
def tbl4 : List (Nat × List (Nat × Nat)) := [(101, [(1, 100), (101, 1)]), (102, [(1, 32), (2, 32), (3, 16), (6, 16), (17, 2), (34, 2), (51, 1), (102, 1)]), (103, [(1, 102), (103, 1)]), (104, [(1, 48), (2, 24), (4, 12), (8, 12), (13, 4), (26, 2), (52, 1), (104, 1)]), (105, [(1, 48), (3, 24), (5, 12), (7, 8), (15, 6), (21, 4), (35, 2), (105, 1)]), (106, [(1, 52), (2, 52), (53, 1), (106, 1)]), (107, [(1, 106), (107, 1)]), (108, [(1, 36), (2, 18), (3, 12), (4, 18), (6, 6), (9, 4), (12, 6), (18, 2), (27, 2), (36, 2), (54, 1), (108, 1)]), (109, [(1, 108), (109, 1)]), (110, [(1, 40), (2, 40), (5, 10), (10, 10), (11, 4), (22, 4), (55, 1), (110, 1)]), (111, [(1, 72), (3, 36), (37, 2), (111, 1)]), (112, [(1, 48), (2, 24), (4, 12), (7, 8), (8, 6), (14, 4), (16, 6), (28, 2), (56, 1), (112, 1)]), (113, [(1, 112), (113, 1)]), (114, [(1, 36), (2, 36), (3, 18), (6, 18), (19, 2), (38, 2), (57, 1), (114, 1)]), (115, [(1, 88), (5, 22), (23, 4), (115, 1)]), (116, [(1, 56), (2, 28), (4, 28), (29, 2), (58, 1), (116, 1)]), (117, [(1, 72), (3, 24), (9, 12), (13, 6), (39, 2), (117, 1)]), (118, [(1, 58), (2, 58), (59, 1), (118, 1)]), (119, [(1, 96), (7, 16), (17, 6), (119, 1)]), (120, [(1, 32), (2, 16), (3, 16), (4, 8), (5, 8), (6, 8), (8, 8), (10, 4), (12, 4), (15, 4), (20, 2), (24, 4), (30, 2), (40, 2), (60, 1), (120, 1)]), (121, [(1, 110), (11, 10), (121, 1)]), (122, [(1, 60), (2, 60), (61, 1), (122, 1)]), (123, [(1, 80), (3, 40), (41, 2), (123, 1)]), (124, [(1, 60), (2, 30), (4, 30), (31, 2), (62, 1), (124, 1)]), (125, [(1, 100), (5, 20), (25, 4), (125, 1)])]
def tbl5 : List (Nat × List (Nat × Nat)) := [(126, [(1, 36), (2, 36), (3, 12), (6, 12), (7, 6), (9, 6), (14, 6), (18, 6), (21, 2), (42, 2), (63, 1), (126, 1)]), (127, [(1, 126), (127, 1)]), (128, [(1, 64), (2, 32), (4, 16), (8, 8), (16, 4), (32, 2), (64, 1), (128, 1)]), (129, [(1, 84), (3, 42), (43, 2), (129, 1)]), (130, [(1, 48), (2, 48), (5, 12), (10, 12), (13, 4), (26, 4), (65, 1), (130, 1)]), (131, [(1, 130), (131, 1)]), (132, [(1, 40), (2, 20), (3, 20), (4, 20), (6, 10), (11, 4), (12, 10), (22, 2), (33, 2), (44, 2), (66, 1), (132, 1)]), (133, [(1, 108), (7, 18), (19, 6), (133, 1)]), (134, [(1, 66), (2, 66), (67, 1), (134, 1)]), (135, [(1, 72), (3, 24), (5, 18), (9, 8), (15, 6), (27, 4), (45, 2), (135, 1)]), (136, [(1, 64), (2, 32), (4, 16), (8, 16), (17, 4), (34, 2), (68, 1), (136, 1)]), (137, [(1, 136), (137, 1)]), (138, [(1, 44), (2, 44), (3, 22), (6, 22), (23, 2), (46, 2), (69, 1), (138, 1)]), (139, [(1, 138), (139, 1)]), (140, [(1, 48), (2, 24), (4, 24), (5, 12), (7, 8), (10, 6), (14, 4), (20, 6), (28, 4), (35, 2), (70, 1), (140, 1)]), (141, [(1, 92), (3, 46), (47, 2), (141, 1)]), (142, [(1, 70), (2, 70), (71, 1), (142, 1)]), (143, [(1, 120), (11, 12), (13, 10), (143, 1)]), (144, [(1, 48), (2, 24), (3, 16), (4, 12), (6, 8), (8, 6), (9, 8), (12, 4), (16, 6), (18, 4), (24, 2), (36, 2), (48, 2), (72, 1), (144, 1)]), (145, [(1, 112), (5, 28), (29, 4), (145, 1)]), (146, [(1, 72), (2, 72), (73, 1), (146, 1)]), (147, [(1, 84), (3, 42), (7, 12), (21, 6), (49, 2), (147, 1)]), (148, [(1, 72), (2, 36), (4, 36), (37, 2), (74, 1), (148, 1)]), (149, [(1, 148), (149, 1)]), (150, [(1, 40), (2, 40), (3, 20), (5, 8), (6, 20), (10, 8), (15, 4), (25, 2), (30, 4), (50, 2), (75, 1), (150, 1)])]
def tbl6 : List (Nat × List (Nat × Nat)) := [(151, [(1, 150), (151, 1)]), (152, [(1, 72), (2, 36), (4, 18), (8, 18), (19, 4), (38, 2), (76, 1), (152, 1)]), (153, [(1, 96), (3, 32), (9, 16), (17, 6), (51, 2), (153, 1)]), (154, [(1, 60), (2, 60), (7, 10), (11, 6), (14, 10), (22, 6), (77, 1), (154, 1)]), (155, [(1, 120), (5, 30), (31, 4), (155, 1)]), (156, [(1, 48), (2, 24), (3, 24), (4, 24), (6, 12), (12, 12), (13, 4), (26, 2), (39, 2), (52, 2), (78, 1), (156, 1)]), (157, [(1, 156), (157, 1)]), (158, [(1, 78), (2, 78), (79, 1), (158, 1)]), (159, [(1, 104), (3, 52), (53, 2), (159, 1)]), (160, [(1, 64), (2, 32), (4, 16), (5, 16), (8, 8), (10, 8), (16, 4), (20, 4), (32, 4), (40, 2), (80, 1), (160, 1)]), (161, [(1, 132), (7, 22), (23, 6), (161, 1)]), (162, [(1, 54), (2, 54), (3, 18), (6, 18), (9, 6), (18, 6), (27, 2), (54, 2), (81, 1), (162, 1)]), (163, [(1, 162), (163, 1)]), (164, [(1, 80), (2, 40), (4, 40), (41, 2), (82, 1), (164, 1)]), (165, [(1, 80), (3, 40), (5, 20), (11, 8), (15, 10), (33, 4), (55, 2), (165, 1)]), (166, [(1, 82), (2, 82), (83, 1), (166, 1)]), (167, [(1, 166), (167, 1)]), (168, [(1, 48), (2, 24), (3, 24), (4, 12), (6, 12), (7, 8), (8, 12), (12, 6), (14, 4), (21, 4), (24, 6), (28, 2), (42, 2), (56, 2), (84, 1), (168, 1)]), (169, [(1, 156), (13, 12), (169, 1)]), (170, [(1, 64), (2, 64), (5, 16), (10, 16), (17, 4), (34, 4), (85, 1), (170, 1)]), (171, [(1, 108), (3, 36), (9, 18), (19, 6), (57, 2), (171, 1)]), (172, [(1, 84), (2, 42), (4, 42), (43, 2), (86, 1), (172, 1)]), (173, [(1, 172), (173, 1)]), (174, [(1, 56), (2, 56), (3, 28), (6, 28), (29, 2), (58, 2), (87, 1), (174, 1)]), (175, [(1, 120), (5, 24), (7, 20), (25, 6), (35, 4), (175, 1)])]
def tbl7 : List (Nat × List (Nat × Nat)) := [(176, [(1, 80), (2, 40), (4, 20), (8, 10), (11, 8), (16, 10), (22, 4), (44, 2), (88, 1), (176, 1)]), (177, [(1, 116), (3, 58), (59, 2), (177, 1)]), (178, [(1, 88), (2, 88), (89, 1), (178, 1)]), (179, [(1, 178), (179, 1)]), (180, [(1, 48), (2, 24), (3, 16), (4, 24), (5, 12), (6, 8), (9, 8), (10, 6), (12, 8), (15, 4), (18, 4), (20, 6), (30, 2), (36, 4), (45, 2), (60, 2), (90, 1), (180, 1)]), (181, [(1, 180), (181, 1)]), (182, [(1, 72), (2, 72), (7, 12), (13, 6), (14, 12), (26, 6), (91, 1), (182, 1)]), (183, [(1, 120), (3, 60), (61, 2), (183, 1)]), (184, [(1, 88), (2, 44), (4, 22), (8, 22), (23, 4), (46, 2), (92, 1), (184, 1)]), (185, [(1, 144), (5, 36), (37, 4), (185, 1)]), (186, [(1, 60), (2, 60), (3, 30), (6, 30), (31, 2), (62, 2), (93, 1), (186, 1)]), (187, [(1, 160), (11, 16), (17, 10), (187, 1)]), (188, [(1, 92), (2, 46), (4, 46), (47, 2), (94, 1), (188, 1)]), (189, [(1, 108), (3, 36), (7, 18), (9, 12), (21, 6), (27, 6), (63, 2), (189, 1)]), (190, [(1, 72), (2, 72), (5, 18), (10, 18), (19, 4), (38, 4), (95, 1), (190, 1)]), (191, [(1, 190), (191, 1)]), (192, [(1, 64), (2, 32), (3, 32), (4, 16), (6, 16), (8, 8), (12, 8), (16, 4), (24, 4), (32, 2), (48, 2), (64, 2), (96, 1), (192, 1)]), (193, [(1, 192), (193, 1)]), (194, [(1, 96), (2, 96), (97, 1), (194, 1)]), (195, [(1, 96), (3, 48), (5, 24), (13, 8), (15, 12), (39, 4), (65, 2), (195, 1)]), (196, [(1, 84), (2, 42), (4, 42), (7, 12), (14, 6), (28, 6), (49, 2), (98, 1), (196, 1)]), (197, [(1, 196), (197, 1)]), (198, [(1, 60), (2, 60), (3, 20), (6, 20), (9, 10), (11, 6), (18, 10), (22, 6), (33, 2), (66, 2), (99, 1), (198, 1)]), (199, [(1, 198), (199, 1)]), (200, [(1, 80), (2, 40), (4, 20), (5, 16), (8, 20), (10, 8), (20, 4), (25, 4), (40, 4), (50, 2), (100, 1), (200, 1)])]
def tblOk (t : List (Nat × List (Nat × Nat))) : Bool := t.all fun p => decide (p.2 = (divsN p.1).map fun d => (d, phiN (p.1 / d)))
def tblDv (t : List (Nat × List (Nat × Nat))) : Bool := t.all fun p => (List.range p.1).all fun c => decide ((p.2.map fun q => q.2 * c ^ q.1).sum % p.1 = 0)
/-- coefficients: of each s, all phi (n / d) of the d between -/
def tblCo (t : List (Nat × List (Nat × Nat))) : Bool := t.all fun p => p.2.all fun s => decide (((p.2.filter fun q => decide (q.1 % s.1 = 0)).map fun q => q.2).sum = p.1 / s.1) && decide ((p.2.map (·.1)).filter (fun d => decide (s.1 % d = 0)) = divsN s.1)
/-- how often each common number comes -/
def tblGc (t : List (Nat × List (Nat × Nat))) : Bool := t.all fun p => p.2.all fun s => decide (((rngN p.1).filter fun b => decide (Nat.gcd p.1 b = s.1)).length = s.2)
theorem tOk0 : tblOk tbl0 = true := by decide +kernel
theorem tDv0 : tblDv tbl0 = true := by decide +kernel
theorem tCo0 : tblCo tbl0 = true := by decide +kernel
theorem tGc0 : tblGc tbl0 = true := by decide +kernel
theorem tOk1 : tblOk tbl1 = true := by decide +kernel
theorem tDv1 : tblDv tbl1 = true := by decide +kernel
theorem tCo1 : tblCo tbl1 = true := by decide +kernel
theorem tGc1 : tblGc tbl1 = true := by decide +kernel
theorem tOk2 : tblOk tbl2 = true := by decide +kernel
theorem tDv2 : tblDv tbl2 = true := by decide +kernel
theorem tCo2 : tblCo tbl2 = true := by decide +kernel
theorem tGc2 : tblGc tbl2 = true := by decide +kernel
theorem tOk3 : tblOk tbl3 = true := by decide +kernel
theorem tDv3 : tblDv tbl3 = true := by decide +kernel
theorem tCo3 : tblCo tbl3 = true := by decide +kernel
theorem tGc3 : tblGc tbl3 = true := by decide +kernel
theorem tOk4 : tblOk tbl4 = true := by decide +kernel
theorem tDv4 : tblDv tbl4 = true := by decide +kernel
theorem tCo4 : tblCo tbl4 = true := by decide +kernel
theorem tGc4 : tblGc tbl4 = true := by decide +kernel
theorem tOk5 : tblOk tbl5 = true := by decide +kernel
theorem tDv5 : tblDv tbl5 = true := by decide +kernel
theorem tCo5 : tblCo tbl5 = true := by decide +kernel
theorem tGc5 : tblGc tbl5 = true := by decide +kernel
theorem tOk6 : tblOk tbl6 = true := by decide +kernel
theorem tDv6 : tblDv tbl6 = true := by decide +kernel
theorem tCo6 : tblCo tbl6 = true := by decide +kernel
theorem tGc6 : tblGc tbl6 = true := by decide +kernel
theorem tOk7 : tblOk tbl7 = true := by decide +kernel
theorem tDv7 : tblDv tbl7 = true := by decide +kernel
theorem tCo7 : tblCo tbl7 = true := by decide +kernel
theorem tGc7 : tblGc tbl7 = true := by decide +kernel
theorem tbl_at {n : Nat} (h1 : 1 ≤ n) (h2 : n ≤ 200) : (∃ t, (n, t) ∈ tbl0 ++ tbl1 ++ tbl2 ++ tbl3 ++ tbl4 ++ tbl5 ++ tbl6 ++ tbl7) := by
  have key : (rngN 200).all (fun n => (tbl0 ++ tbl1 ++ tbl2 ++ tbl3 ++ tbl4 ++ tbl5 ++ tbl6 ++ tbl7).any fun p => p.1 == n) = true := by decide +kernel
  have m : n ∈ rngN 200 := List.mem_map.mpr ⟨n - 1, List.mem_range.mpr (by omega), by omega⟩
  obtain ⟨p, hp, e⟩ := List.any_eq_true.mp (List.all_eq_true.mp key n m)
  have e' : p.1 = n := by simpa using e
  exact ⟨p.2, by rw [← e']; exact hp⟩
theorem tbl_all {f : List (Nat × List (Nat × Nat)) → Bool} {g : Nat × List (Nat × Nat) → Bool} (hf : ∀ t, f t = t.all g) (h : f tbl0 = true ∧ f tbl1 = true ∧ f tbl2 = true ∧ f tbl3 = true ∧ f tbl4 = true ∧ f tbl5 = true ∧ f tbl6 = true ∧ f tbl7 = true) : ∀ p ∈ tbl0 ++ tbl1 ++ tbl2 ++ tbl3 ++ tbl4 ++ tbl5 ++ tbl6 ++ tbl7, g p = true := by
  intro p hp
  simp only [List.mem_append] at hp
  simp only [hf, List.all_eq_true] at h
  obtain ⟨h0, h1, h2, h3, h4, h5, h6, h7⟩ := h
  rcases hp with ((((((hp | hp) | hp) | hp) | hp) | hp) | hp) | hp
  · exact h0 p hp
  · exact h1 p hp
  · exact h2 p hp
  · exact h3 p hp
  · exact h4 p hp
  · exact h5 p hp
  · exact h6 p hp
  · exact h7 p hp
end RM
set_option Elab.async false
set_option linter.all false
set_option maxRecDepth 100000
set_option maxHeartbeats 1000000
namespace RM
open Ab
/-! ### sums -/
section
variable {α β : Type}
theorem sm_congr {l : List α} {f g : α → Int} (h : ∀ x ∈ l, f x = g x) : (l.map f).sum = (l.map g).sum := by rw [List.map_congr_left h]
theorem sm_zero : ∀ (l : List α), (l.map fun _ => (0 : Int)).sum = 0
  | [] => rfl
  | x :: l => by rw [List.map_cons, List.sum_cons, sm_zero l]; rfl
theorem sm_add (f g : α → Int) : ∀ l : List α, (l.map fun x => f x + g x).sum = (l.map f).sum + (l.map g).sum
  | [] => rfl
  | x :: l => by
    simp only [List.map_cons, List.sum_cons, sm_add f g l]; omega
theorem sm_mul (k : Int) (f : α → Int) : ∀ l : List α, (l.map fun x => k * f x).sum = k * (l.map f).sum
  | [] => by simp
  | x :: l => by simp only [List.map_cons, List.sum_cons, sm_mul k f l, Int.mul_add]
theorem sm_app (f : α → Int) : ∀ l m : List α, ((l ++ m).map f).sum = (l.map f).sum + (m.map f).sum
  | [], m => by simp
  | x :: l, m => by
    simp only [List.cons_append, List.map_cons, List.sum_cons, sm_app f l m]; omega
theorem sm_swap (f : α → β → Int) (m : List β) : ∀ l : List α, (l.map fun d => (m.map fun s => f d s).sum).sum = (m.map fun s => (l.map fun d => f d s).sum).sum
  | [] => by simp only [List.map_nil, List.sum_nil]; exact (sm_zero m).symm
  | x :: l => by
    simp only [List.map_cons, List.sum_cons]
    rw [sm_swap f m l, sm_add]
theorem sm_filter (p : α → Bool) (f : α → Int) : ∀ l : List α, ((l.filter p).map f).sum = (l.map fun x => if p x = true then f x else 0).sum
  | [] => rfl
  | x :: l => by
    rw [List.filter_cons, List.map_cons, List.sum_cons]
    cases h : p x with
    | true => simp only [if_true, List.map_cons, List.sum_cons, sm_filter p f l]
    | false => simp only [Bool.false_eq_true, if_false, sm_filter p f l, Int.zero_add]
theorem sm_const (k : Int) : ∀ l : List α, (l.map fun _ => k).sum = (l.length : Int) * k
  | [] => by simp
  | x :: l => by
    rw [List.map_cons, List.sum_cons, sm_const k l, List.length_cons]
    have : ((l.length + 1 : Nat) : Int) = (l.length : Int) + 1 := by omega
    rw [this, Int.add_mul]; omega
theorem sm_pick [DecidableEq α] (f : α → Int) {x : α} : ∀ {l : List α}, l.Nodup → x ∈ l → (l.map fun d => if x = d then f d else 0).sum = f x
  | [], _, h => by cases h
  | y :: l, nd, h => by
    rw [List.map_cons, List.sum_cons]
    have nd2 := List.nodup_cons.mp nd
    by_cases hx : x = y
    · subst hx
      rw [if_pos rfl]
      have : (l.map fun d => if x = d then f d else 0).sum = 0 := by
        rw [sm_congr (g := fun _ => 0) fun d hd => if_neg fun (e : x = d) => nd2.1 (e ▸ hd)]
        exact sm_zero l
      rw [this]; omega
    · rw [if_neg hx, sm_pick f nd2.2 (by rcases List.mem_cons.mp h with h | h; exact absurd h hx; exact h)]; omega
theorem sm_nat (f : α → Nat) : ∀ l : List α, (((l.map f).sum : Nat) : Int) = (l.map fun x => (f x : Int)).sum
  | [] => rfl
  | x :: l => by rw [List.map_cons, List.sum_cons, List.map_cons, List.sum_cons, ← sm_nat f l]; omega
theorem sm_nonneg {l : List α} {f : α → Int} (h : ∀ x ∈ l, 0 ≤ f x) : 0 ≤ (l.map f).sum := by
  induction l with
  | nil => exact Int.le_refl _
  | cons x l ih =>
    rw [List.map_cons, List.sum_cons]
    have h1 := h x List.mem_cons_self
    have h2 := ih fun y hy => h y (List.mem_cons_of_mem _ hy)
    omega
theorem sm_le {l : List α} {f g : α → Int} (h : ∀ x ∈ l, f x ≤ g x) : (l.map f).sum ≤ (l.map g).sum := by
  induction l with
  | nil => exact Int.le_refl _
  | cons x l ih =>
    rw [List.map_cons, List.sum_cons, List.map_cons, List.sum_cons]
    have h1 := h x List.mem_cons_self
    have h2 := ih fun y hy => h y (List.mem_cons_of_mem _ hy)
    omega
theorem sm_dvd {n : Int} {l : List α} {f : α → Int} (h : ∀ x ∈ l, n ∣ f x) : n ∣ (l.map f).sum := by
  induction l with
  | nil => exact Int.dvd_zero n
  | cons x l ih =>
    rw [List.map_cons, List.sum_cons]
    exact Int.dvd_add (h x List.mem_cons_self) (ih fun y hy => h y (List.mem_cons_of_mem _ hy))
end
/-! ### divisors -/
theorem mem_rngN {n b : Nat} : b ∈ rngN n ↔ 1 ≤ b ∧ b ≤ n := by
  unfold rngN
  rw [List.mem_map]
  constructor
  · rintro ⟨i, hi, rfl⟩
    rw [List.mem_range] at hi
    omega
  · rintro ⟨h1, h2⟩
    exact ⟨b - 1, List.mem_range.mpr (by omega), by omega⟩
theorem rngN_len (n : Nat) : (rngN n).length = n := by simp [rngN]
theorem rngN_nodup (n : Nat) : (rngN n).Nodup := by
  unfold rngN
  exact List.Pairwise.map (1 + ·) (fun a b (h : a ≠ b) => show 1 + a ≠ 1 + b by omega) List.nodup_range
theorem rngN_succ (n : Nat) : rngN (n + 1) = rngN n ++ [n + 1] := by
  unfold rngN
  rw [List.range_succ, List.map_append]
  simp [Nat.add_comm]
theorem mem_divsN {n d : Nat} : d ∈ divsN n ↔ (1 ≤ d ∧ d ≤ n) ∧ n % d = 0 := by
  unfold divsN
  rw [List.mem_filter, mem_rngN, decide_eq_true_iff]
theorem divsN_nodup (n : Nat) : (divsN n).Nodup := (rngN_nodup n).filter _
theorem divsN_split {n : Nat} (h : 1 ≤ n) : divsN n = (divsN n).filter (fun d => decide (d < n)) ++ [n] := by
  obtain ⟨m, rfl⟩ : ∃ m, n = m + 1 := ⟨n - 1, by omega⟩
  unfold divsN
  rw [rngN_succ, List.filter_append]
  have e1 : List.filter (fun b => decide ((m + 1) % b = 0)) [m + 1] = [m + 1] := by simp
  rw [e1, List.filter_append]
  have e2 : List.filter (fun d => decide (d < m + 1)) [m + 1] = [] := by simp
  rw [e2, List.append_nil]
  congr 1
  refine (List.filter_eq_self.mpr fun d hd => ?_).symm
  have := mem_rngN.mp (List.mem_filter.mp hd).1
  exact decide_eq_true (by omega)
theorem divsN_head {n : Nat} (h : 1 ≤ n) : ∃ t, divsN n = 1 :: t := by
  obtain ⟨m, rfl⟩ : ∃ m, n = m + 1 := ⟨n - 1, by omega⟩
  unfold divsN rngN
  rw [List.range_succ_eq_map, List.map_cons, List.filter_cons]
  exact ⟨_, by rw [if_pos (by simp [Nat.mod_one])]⟩
theorem gcd_mem {n b : Nat} (h : 1 ≤ n) : Nat.gcd n b ∈ divsN n := by
  have h1 := Nat.gcd_dvd_left n b
  have h2 := Nat.gcd_pos_of_pos_left b (show 0 < n by omega)
  exact mem_divsN.mpr ⟨⟨h2, Nat.le_of_dvd (by omega) h1⟩, Nat.mod_eq_zero_of_dvd h1⟩
/-! ### what the table tells -/
structure TabN (n : Nat) : Prop where
  dv : ∀ c, c < n → ((divsN n).map fun d => phiN (n / d) * c ^ d).sum % n = 0
  co : ∀ s ∈ divsN n, (((divsN n).filter fun d => decide (d % s = 0)).map fun d => phiN (n / d)).sum = n / s
  sub : ∀ s ∈ divsN n, (divsN n).filter (fun d => decide (s % d = 0)) = divsN s
  gc : ∀ s ∈ divsN n, ((rngN n).filter fun b => decide (Nat.gcd n b = s)).length = phiN (n / s)
theorem tabN {n : Nat} (h1 : 1 ≤ n) (h2 : n ≤ 200) : TabN n := by
  obtain ⟨t, ht⟩ := tbl_at h1 h2
  have k1 := tbl_all (f := tblOk) (fun _ => rfl) ⟨tOk0, tOk1, tOk2, tOk3, tOk4, tOk5, tOk6, tOk7⟩ _ ht
  have k2 := tbl_all (f := tblDv) (fun _ => rfl) ⟨tDv0, tDv1, tDv2, tDv3, tDv4, tDv5, tDv6, tDv7⟩ _ ht
  have k3 := tbl_all (f := tblCo) (fun _ => rfl) ⟨tCo0, tCo1, tCo2, tCo3, tCo4, tCo5, tCo6, tCo7⟩ _ ht
  have k4 := tbl_all (f := tblGc) (fun _ => rfl) ⟨tGc0, tGc1, tGc2, tGc3, tGc4, tGc5, tGc6, tGc7⟩ _ ht
  have e : t = (divsN n).map fun d => (d, phiN (n / d)) := of_decide_eq_true k1
  subst e
  simp only [List.all_eq_true, decide_eq_true_iff, Bool.and_eq_true, List.mem_map, List.mem_range] at k2 k3 k4
  refine ⟨fun c hc => ?_, fun s hs => ?_, fun s hs => ?_, fun s hs => ?_⟩
  · have := k2 c hc
    rw [List.map_map] at this
    exact this
  · have := (k3 _ ⟨s, hs, rfl⟩).1
    rw [List.filter_map, List.map_map] at this
    exact this
  · have := (k3 _ ⟨s, hs, rfl⟩).2
    rw [List.map_map] at this
    have e : ((fun q : Nat × Nat => q.1) ∘ fun d => (d, phiN (n / d))) = fun d => d := rfl
    rw [e, List.map_id'] at this
    exact this
  · exact k4 _ ⟨s, hs, rfl⟩
/-! ### how many rings -/
def sumS (c : Int) (n : Nat) : Int := ((divsN n).map fun d => (phiN (n / d) : Int) * c ^ d).sum
def ringsN (c : Int) (n : Nat) : Int := sumS c n / n
def gsum (c : Int) (n : Nat) : Int := ((rngN n).map fun b => c ^ Nat.gcd n b).sum
theorem sum_gcd {n : Nat} (h1 : 1 ≤ n) (h2 : n ≤ 200) (f : Nat → Int) : ((rngN n).map fun b => f (Nat.gcd n b)).sum = ((divsN n).map fun d => (phiN (n / d) : Int) * f d).sum := by
  have T := tabN h1 h2
  have e1 : ((rngN n).map fun b => f (Nat.gcd n b)).sum = ((rngN n).map fun b => ((divsN n).map fun d => if Nat.gcd n b = d then f d else 0).sum).sum := by
    apply sm_congr
    intro b _
    exact (sm_pick f (divsN_nodup n) (gcd_mem h1)).symm
  rw [e1, sm_swap]
  apply sm_congr
  intro d hd
  have e2 : ((rngN n).map fun b => if Nat.gcd n b = d then f d else 0).sum = (((rngN n).filter fun b => decide (Nat.gcd n b = d)).map fun _ => f d).sum := by
    rw [sm_filter]
    apply sm_congr
    intro b _
    simp only [decide_eq_true_iff]
  rw [e2, sm_const, T.gc d hd]
theorem sumS_gsum {n : Nat} (c : Int) (h1 : 1 ≤ n) (h2 : n ≤ 200) : gsum c n = sumS c n := sum_gcd h1 h2 fun d => c ^ d
theorem sum_mod {α : Type} {n : Nat} (f g : α → Nat) : ∀ l : List α, (∀ x ∈ l, f x % n = g x % n) → (l.map f).sum % n = (l.map g).sum % n
  | [], _ => rfl
  | x :: l, h => by
    rw [List.map_cons, List.sum_cons, List.map_cons, List.sum_cons, Nat.add_mod, h x List.mem_cons_self, sum_mod f g l fun y hy => h y (List.mem_cons_of_mem _ hy), ← Nat.add_mod]
theorem sumS_dvd {n : Nat} {c : Int} (hc : 0 ≤ c) (h1 : 1 ≤ n) (h2 : n ≤ 200) : (n : Int) ∣ sumS c n := by
  obtain ⟨k, rfl⟩ := Int.eq_ofNat_of_zero_le hc
  have T := tabN h1 h2
  have e : sumS (k : Int) n = (((divsN n).map fun d => phiN (n / d) * k ^ d).sum : Nat) := by
    rw [sm_nat]
    apply sm_congr
    intro d _
    rw [Int.natCast_mul, Int.natCast_pow]
  rw [e]
  apply Int.natCast_dvd_natCast.mpr
  apply Nat.dvd_of_mod_eq_zero
  rw [← T.dv (k % n) (Nat.mod_lt _ (by omega))]
  apply sum_mod
  intro d _
  rw [Nat.mul_mod, Nat.pow_mod, Nat.mul_mod (phiN (n / d)) ((k % n) ^ d), Nat.pow_mod (k % n) d n, Nat.mod_mod]
theorem rings_mul {n : Nat} {c : Int} (hc : 0 ≤ c) (h1 : 1 ≤ n) (h2 : n ≤ 200) : ringsN c n * n = gsum c n := by
  rw [sumS_gsum c h1 h2]
  exact Int.ediv_mul_cancel (sumS_dvd hc h1 h2)
/-! ### by periods -/
def rowsF (c : Int) : Nat → Nat → Int
  | 0, _ => 0
  | k + 1, s => c ^ s - (((divsN s).filter fun d => decide (d < s)).map fun d => rowsF c k d).sum
theorem half {s d : Nat} (hd : d ∈ (divsN s).filter fun d => decide (d < s)) : 1 ≤ d ∧ 2 * d ≤ s ∧ s % d = 0 := by
  obtain ⟨h1, h2⟩ := List.mem_filter.mp hd
  obtain ⟨h3, h4⟩ := mem_divsN.mp h1
  have h5 : d < s := by simpa using h2
  refine ⟨h3.1, ?_, h4⟩
  have h6 := Nat.div_add_mod s d
  rw [h4, Nat.add_zero] at h6
  generalize s / d = t at h6
  rcases t with _ | _ | t
  · rw [Nat.mul_zero] at h6; omega
  · omega
  · have : d * 2 ≤ d * (t + 1 + 1) := Nat.mul_le_mul_left d (by omega)
    omega
theorem rowsF_fuel (c : Int) : ∀ (j k s : Nat), 1 ≤ s → s < 2 ^ j → s < 2 ^ k → rowsF c j s = rowsF c k s
  | 0, _, s, h, h1, _ => by simp at h1; omega
  | _, 0, s, h, _, h1 => by simp at h1; omega
  | j + 1, k + 1, s, h, h1, h2 => by
    unfold rowsF
    congr 1
    apply sm_congr
    intro d hd
    have := half hd
    rw [Nat.pow_succ] at h1 h2
    exact rowsF_fuel c j k d this.1 (by omega) (by omega)
/-- how many rows of so many beads are theirs for the first time only after all of them -/
def rowsX (c : Int) (s : Nat) : Int := rowsF c 8 s
theorem rowsX_eq (c : Int) {s : Nat} (h1 : 1 ≤ s) (h2 : s ≤ 200) : rowsX c s = c ^ s - (((divsN s).filter fun d => decide (d < s)).map fun d => rowsX c d).sum := by
  have e : rowsX c s = c ^ s - (((divsN s).filter fun d => decide (d < s)).map fun d => rowsF c 7 d).sum := by
    unfold rowsX
    rw [rowsF]
  rw [e]
  refine congrArg (fun z => c ^ s - z) (sm_congr fun d hd => ?_)
  have := half hd
  unfold rowsX
  exact rowsF_fuel c 7 8 d this.1 (by omega) (by omega)
theorem rowsX_sum (c : Int) {s : Nat} (h1 : 1 ≤ s) (h2 : s ≤ 200) : ((divsN s).map fun d => rowsX c d).sum = c ^ s := by
  rw [divsN_split h1, sm_app, List.map_cons, List.map_nil, List.sum_cons, List.sum_nil, rowsX_eq c h1 h2]; omega
theorem sum_rows (c : Int) {n : Nat} (h1 : 1 ≤ n) (h2 : n ≤ 200) : sumS c n = ((divsN n).map fun s => ((n / s : Nat) : Int) * rowsX c s).sum := by
  have T := tabN h1 h2
  unfold sumS
  have e1 : ((divsN n).map fun d => (phiN (n / d) : Int) * c ^ d).sum = ((divsN n).map fun d => ((divsN n).map fun s => (phiN (n / d) : Int) * (if d % s = 0 then rowsX c s else 0)).sum).sum := by
    apply sm_congr
    intro d hd
    have hd2 := mem_divsN.mp hd
    rw [sm_mul, ← rowsX_sum c hd2.1.1 (by omega), ← T.sub d hd, sm_filter]
    congr 1
    apply sm_congr
    intro s _
    simp only [decide_eq_true_iff]
  rw [e1, sm_swap]
  apply sm_congr
  intro s hs
  have e2 : ((divsN n).map fun d => (phiN (n / d) : Int) * (if d % s = 0 then rowsX c s else 0)).sum = ((divsN n).map fun d => rowsX c s * (if decide (d % s = 0) = true then (phiN (n / d) : Int) else 0)).sum := by
    apply sm_congr
    intro d _
    by_cases h : d % s = 0
    · rw [if_pos h, if_pos (decide_eq_true h), Int.mul_comm]
    · rw [if_neg h, if_neg (by simpa using h), Int.mul_zero, Int.mul_zero]
  rw [e2, sm_mul, ← sm_filter, ← sm_nat, T.co s hs, Int.mul_comm]
theorem rowsX_dvd {c : Int} (hc : 0 ≤ c) : ∀ (s : Nat), 1 ≤ s → s ≤ 200 → (s : Int) ∣ rowsX c s := by
  intro s
  induction s using Nat.strongRecOn with
  | _ n ih =>
    intro h1 h2
    have hd := sumS_dvd hc h1 h2
    rw [sum_rows c h1 h2, divsN_split h1, sm_app, List.map_cons, List.map_nil, List.sum_cons, List.sum_nil, Nat.div_self (by omega), Int.add_zero, show ((1 : Nat) : Int) = 1 from rfl, Int.one_mul] at hd
    have h3 : (n : Int) ∣ (((divsN n).filter fun d => decide (d < n)).map fun s => ((n / s : Nat) : Int) * rowsX c s).sum := by
      apply sm_dvd
      intro s hs
      have k := half hs
      obtain ⟨q, hq⟩ := ih s (by omega) k.1 (by omega)
      refine ⟨q, ?_⟩
      rw [hq, ← Int.mul_assoc]
      congr 1
      rw [← Int.natCast_mul, Nat.div_mul_cancel (Nat.dvd_of_mod_eq_zero k.2.2)]
    exact (Int.dvd_add_right h3).mp hd
theorem geo {c : Int} (hc : 2 ≤ c) : ∀ n : Nat, ((rngN n).map fun d => c ^ d).sum ≤ c ^ (n + 1) - c
  | 0 => by
    have e : c ^ (0 + 1) = c := Int.pow_one c
    rw [e]
    show (0 : Int) ≤ c - c
    omega
  | n + 1 => by
    rw [rngN_succ, sm_app, List.map_cons, List.map_nil, List.sum_cons, List.sum_nil]
    have ih := geo hc n
    have h1 : 0 ≤ c ^ (n + 1) := Int.pow_nonneg (by omega)
    have h2 : c ^ (n + 1 + 1) = c ^ (n + 1) * c := Int.pow_succ ..
    have h3 : c ^ (n + 1) * 2 ≤ c ^ (n + 1) * c := Int.mul_le_mul_of_nonneg_left hc h1
    omega
theorem rowsX_nonneg {c : Int} (hc : 1 ≤ c) : ∀ (s : Nat), 1 ≤ s → s ≤ 200 → 0 ≤ rowsX c s := by
  intro s
  induction s using Nat.strongRecOn with
  | _ n ih =>
    intro h1 h2
    have le : ∀ d, 1 ≤ d → d < n → rowsX c d ≤ c ^ d := fun d k1 k2 => by
      rw [rowsX_eq c k1 (by omega)]
      have : 0 ≤ (((divsN d).filter fun e => decide (e < d)).map fun e => rowsX c e).sum := sm_nonneg fun e he => by
        have := half he
        exact ih e (by omega) this.1 (by omega)
      omega
    by_cases hc2 : 2 ≤ c
    · rw [rowsX_eq c h1 h2]
      obtain ⟨m, rfl⟩ : ∃ m, n = m + 1 := ⟨n - 1, by omega⟩
      have g := geo hc2 m
      have a : (((divsN (m + 1)).filter fun d => decide (d < m + 1)).map fun d => rowsX c d).sum ≤ ((rngN m).map fun d => c ^ d).sum := by
        have e : ∀ d, d ∈ rngN m → rowsX c d ≤ c ^ d ∧ 0 ≤ c ^ d := fun d hd => by
          have := mem_rngN.mp hd
          exact ⟨le d this.1 (by omega), Int.pow_nonneg (by omega)⟩
        have e2 : (divsN (m + 1)).filter (fun d => decide (d < m + 1)) = (rngN m).filter fun d => decide ((m + 1) % d = 0) := by
          unfold divsN
          rw [rngN_succ, List.filter_append, List.filter_append]
          have z : List.filter (fun d => decide (d < m + 1)) (List.filter (fun b => decide ((m + 1) % b = 0)) [m + 1]) = [] := by simp
          rw [z, List.append_nil]
          exact List.filter_eq_self.mpr fun d hd => by
            have := mem_rngN.mp (List.mem_filter.mp hd).1
            exact decide_eq_true (by omega)
        rw [e2, sm_filter]
        apply sm_le
        intro d hd
        have := e d hd
        split
        · exact this.1
        · exact this.2
      omega
    · have ec : c = 1 := by omega
      subst ec
      by_cases hn : n = 1
      · subst hn; decide +kernel
      · have one : ∀ d, 1 < d → d < n → rowsX 1 d = 0 := by
          intro d
          induction d using Nat.strongRecOn with
          | _ d ihd =>
            intro k1 k2
            have z := rowsX_sum 1 (s := d) (by omega) (by omega)
            rw [divsN_split (by omega), sm_app] at z
            obtain ⟨t, ht⟩ := divsN_head (n := d) (by omega)
            have nn : 0 ≤ rowsX 1 d := ih d k2 (by omega) (by omega)
            have up : 1 ≤ (((divsN d).filter fun e => decide (e < d)).map fun e => rowsX 1 e).sum := by
              rw [ht, List.filter_cons, if_pos (by simpa using k1), List.map_cons, List.sum_cons]
              have r1 : rowsX 1 1 = 1 := by decide +kernel
              have : 0 ≤ ((t.filter fun e => decide (e < d)).map fun e => rowsX 1 e).sum := sm_nonneg fun e he => by
                obtain ⟨m1, m2⟩ := List.mem_filter.mp he
                have m3 : e ∈ divsN d := by rw [ht]; exact List.mem_cons_of_mem _ m1
                have m4 := mem_divsN.mp m3
                have m5 : e < d := by simpa using m2
                exact ih e (by omega) m4.1.1 (by omega)
              omega
            simp only [List.map_cons, List.map_nil, List.sum_cons, List.sum_nil, Int.one_pow] at z
            omega
        rw [rowsX_eq 1 h1 h2]
        obtain ⟨t, ht⟩ := divsN_head (n := n) (by omega)
        have nd := divsN_nodup n
        rw [ht] at nd
        have e : (((divsN n).filter fun e => decide (e < n)).map fun e => rowsX 1 e).sum = 1 := by
          rw [ht, List.filter_cons, if_pos (by simp; omega), List.map_cons, List.sum_cons]
          have r1 : rowsX 1 1 = 1 := by decide +kernel
          have : ((t.filter fun e => decide (e < n)).map fun e => rowsX 1 e).sum = 0 := by
            rw [sm_congr (g := fun _ => 0) fun e he => ?_]
            · exact sm_zero _
            · obtain ⟨m1, m2⟩ := List.mem_filter.mp he
              have m3 : e ∈ divsN n := by rw [ht]; exact List.mem_cons_of_mem _ m1
              have m4 := mem_divsN.mp m3
              have m5 : e < n := by simpa using m2
              refine one e ?_ m5
              have m6 : e ≠ 1 := fun z => (List.nodup_cons.mp nd).1 (z ▸ m1)
              omega
          rw [r1, this]; rfl
        rw [e, Int.one_pow]; omega
/-- how many rings have a period -/
def ofP (c : Int) (s : Nat) : Int := rowsX c s / s
theorem ofP_mul {c : Int} (hc : 0 ≤ c) {s : Nat} (h1 : 1 ≤ s) (h2 : s ≤ 200) : (s : Int) * ofP c s = rowsX c s := Int.mul_ediv_cancel' (rowsX_dvd hc s h1 h2)
theorem ofP_nonneg {c : Int} (hc : 1 ≤ c) {s : Nat} (h1 : 1 ≤ s) (h2 : s ≤ 200) : 0 ≤ ofP c s := Int.ediv_nonneg (rowsX_nonneg hc s h1 h2) (by omega)
theorem ofP_rows {c : Int} (hc : 0 ≤ c) {n : Nat} (h1 : 1 ≤ n) (h2 : n ≤ 200) : ((divsN n).map fun s : Nat => (s : Int) * ofP c s).sum = c ^ n := by
  rw [← rowsX_sum c h1 h2]
  apply sm_congr
  intro s hs
  have := mem_divsN.mp hs
  exact ofP_mul hc this.1.1 (by omega)
theorem ofP_sum {c : Int} (hc : 0 ≤ c) {n : Nat} (h1 : 1 ≤ n) (h2 : n ≤ 200) : ((divsN n).map fun s => ofP c s).sum = ringsN c n := by
  unfold ringsN
  have e : sumS c n = (n : Int) * ((divsN n).map fun s => ofP c s).sum := by
    rw [sum_rows c h1 h2, ← sm_mul]
    apply sm_congr
    intro s hs
    have hs2 := mem_divsN.mp hs
    rw [← ofP_mul hc hs2.1.1 (by omega), ← Int.mul_assoc]
    congr 1
    rw [← Int.natCast_mul, Nat.div_mul_cancel (Nat.dvd_of_mod_eq_zero hs2.2)]
  rw [e, Int.mul_ediv_cancel_left _ (by omega)]
theorem ofP_one (c : Int) : ofP c 1 = c := by
  unfold ofP
  rw [rowsX_eq c (by decide) (by decide)]
  have e : ((divsN 1).filter fun d => decide (d < 1)) = [] := by decide +kernel
  rw [e, List.map_nil, List.sum_nil, Int.pow_one]
  show (c - 0) / 1 = c
  rw [Int.ediv_one]; omega
end RM
set_option Elab.async false
set_option linter.all false
set_option maxRecDepth 100000
set_option maxHeartbeats 1000000
namespace RM
open Ab PySem L2
/-- a count of colours -/
def Col (c : Int) : Prop := 1 ≤ c ∧ c ≤ 10 ^ 30
theorem Col.pow_ok {c : Int} (h : Col c) {i : Nat} (hi : i ≤ 1000) : IntMulOk (c ^ i) c := by
  obtain ⟨h1, h2⟩ := h
  have e : (10 : Int) ^ 30 ≤ ((2 ^ 100 : Nat) : Int) := by decide
  have hc : c.natAbs ≤ 2 ^ 100 := by omega
  have b1 : Builtin.Int.intBits c ≤ 101 := bits_le (by
    have : (2 : Nat) ^ 101 = 2 * 2 ^ 100 := by decide
    have p : 0 < (2 : Nat) ^ 100 := by decide
    omega)
  have b2 : Builtin.Int.intBits (c ^ i) ≤ 100 * i + 1 := bits_le (by
    rw [Int.natAbs_pow]
    have k1 : c.natAbs ^ i ≤ (2 ^ 100) ^ i := Nat.pow_le_pow_left hc i
    rw [← Nat.pow_mul] at k1
    have k2 : (2 : Nat) ^ (100 * i) < 2 ^ (100 * i + 1) := Nat.pow_lt_pow_right (by decide) (by omega)
    omega)
  exact mul_ok (n := 0) (by omega)
theorem rng_rngN (n : Nat) : (rng 1 n).map AV.int = (rngN n).map fun b : Nat => AV.int (b : Int) := by
  unfold rng rngN
  rw [List.map_map, List.map_map]
  apply List.map_congr_left
  intro i _
  show AV.int (1 + (i : Int)) = AV.int ((1 + i : Nat) : Int)
  congr 1
theorem dec_mod (n b : Nat) : decide ((n : Int) % (b : Int) = 0) = decide (n % b = 0) := by
  rw [← Int.natCast_emod]
  exact decide_eq_decide.mpr (by omega)
theorem dec_one (g : Nat) : decide ((g : Int) = 1) = decide (g = 1) := decide_eq_decide.mpr (by omega)
theorem dec_lt (a b : Nat) : decide ((a : Int) < (b : Int)) = decide (a < b) := decide_eq_decide.mpr (by omega)
theorem phiN_le (n : Nat) : phiN n ≤ n := by
  unfold phiN
  have := List.length_filter_le (fun b => decide (Nat.gcd n b = 1)) (rngN n)
  rw [rngN_len] at this
  exact this
theorem atI_at {α : Type} {f : α → AV} {xs : List α} {i : Int} (h0 : 0 ≤ i) (h1 : i < xs.length) : atI (xs.map f) i = some (f (xs[i.toNat]'(by omega))) := by
  have h2 : i.toNat < xs.length := by omega
  unfold atI ixN
  rw [List.length_map, if_pos h0, if_pos h1, Option.bind_some, List.getElem?_map, List.getElem?_eq_getElem h2]
  rfl
theorem atI_zero {α : Type} (x : α) (l : List α) : atI (x :: l) 0 = some x := by
  unfold atI ixN
  rw [if_pos (Int.le_refl _), if_pos (by rw [List.length_cons]; omega)]
  rfl
/-! ### all rows of few colours -/
def allRows (c : Nat) : Nat → List (List Int)
  | 0 => [[]]
  | n + 1 => (allRows c n).flatMap fun r => (List.range c).map fun x : Nat => r ++ [(x : Int)]
theorem flat_len {c : Nat} : ∀ l : List (List Int), (l.flatMap fun r => (List.range c).map fun x : Nat => r ++ [(x : Int)]).length = l.length * c
  | [] => by simp
  | r :: l => by rw [List.flatMap_cons, List.length_append, flat_len l, List.length_map, List.length_range, List.length_cons, Nat.add_mul]; omega
theorem allRows_len (c : Nat) : ∀ n, (allRows c n).length = c ^ n
  | 0 => rfl
  | n + 1 => by
    show (List.flatMap _ _).length = _
    rw [flat_len, allRows_len c n, Nat.pow_succ]
theorem allRows_mem {c : Nat} : ∀ {n : Nat} {r : List Int}, r ∈ allRows c n → r.length = n ∧ ∀ x ∈ r, 0 ≤ x ∧ x < c
  | 0, r, h => by
    have : r = [] := by simpa [allRows] using h
    subst this
    exact ⟨rfl, fun x hx => by cases hx⟩
  | n + 1, r, h => by
    obtain ⟨q, hq, h2⟩ := List.mem_flatMap.mp h
    obtain ⟨x, hx, rfl⟩ := List.mem_map.mp h2
    rw [List.mem_range] at hx
    have ih := allRows_mem hq
    refine ⟨by rw [List.length_append, ih.1]; rfl, fun y hy => ?_⟩
    rcases List.mem_append.mp hy with hy | hy
    · exact ih.2 y hy
    · simp at hy; subst hy; omega
theorem turns_rows {r : List Int} {n : Nat} (h : r.length = n) : ((rng 0 n).map fun b => r.drop b.toNat ++ r.take b.toNat) = turns r := by
  subst h
  unfold turns
  apply List.map_congr_left
  intro b hb
  have := rng_mem.mp hb
  unfold turnOf
  rw [Int.emod_eq_of_lt (by omega) (by omega)]
/-- a row is the least of its turnings -/
def isL (r : List Int) : Bool := (turns r).all fun t => !lexlt t r
theorem isL_iff {r : List Int} (h : r ≠ []) : (r = leastR r) ↔ isL r = true := by
  unfold isL
  rw [List.all_eq_true]
  constructor
  · intro e t ht
    have := minR_least ht
    show (!lexlt t r) = true
    rw [e]
    show (!lexlt t (minR (turns r))) = true
    rw [this]; rfl
  · intro k
    refine (minR_uniq ((turns_mem h).mpr ⟨0, (turnOf_zero r).symm⟩) fun s hs => ?_).symm
    have := k s hs
    simpa using this
end RM
set_option Elab.async false
set_option linter.all false
set_option maxRecDepth 100000
set_option maxHeartbeats 1000000
namespace NK
open Ab RM
/-! ### words by their letters; the first difference -/
def LT (n : Nat) (f g : Nat → Int) : Prop := ∃ k, k < n ∧ (∀ i, i < k → f i = g i) ∧ f k < g k
theorem LT.irrefl {n : Nat} {f : Nat → Int} : ¬ LT n f f := fun ⟨k, _, _, h⟩ => by omega
theorem LT.asymm {n m : Nat} {f g : Nat → Int} (h : LT n f g) : ¬ LT m g f := fun ⟨k, _, h2, h3⟩ => by
  obtain ⟨j, _, k2, k3⟩ := h
  rcases Nat.lt_trichotomy j k with e | e | e
  · have := h2 j e; omega
  · subst e; omega
  · have := k2 k e; omega
theorem LT.trans {n : Nat} {f g h : Nat → Int} (a : LT n f g) (b : LT n g h) : LT n f h := by
  obtain ⟨j, j1, j2, j3⟩ := a
  obtain ⟨k, k1, k2, k3⟩ := b
  rcases Nat.lt_trichotomy j k with e | e | e
  · exact ⟨j, j1, fun i hi => (j2 i hi).trans (k2 i (by omega)), by rw [← k2 j e]; exact j3⟩
  · subst e; exact ⟨j, j1, fun i hi => (j2 i hi).trans (k2 i hi), by omega⟩
  · exact ⟨k, k1, fun i hi => (j2 i (by omega)).trans (k2 i hi), by rw [j2 k e]; exact k3⟩
theorem LT.tri (n : Nat) (f g : Nat → Int) : LT n f g ∨ (∀ i, i < n → f i = g i) ∨ LT n g f := by
  induction n with
  | zero => exact .inr (.inl fun i h => by omega)
  | succ n ih =>
    rcases ih with ⟨k, k1, k2, k3⟩ | h | ⟨k, k1, k2, k3⟩
    · exact .inl ⟨k, by omega, k2, k3⟩
    · rcases Int.lt_trichotomy (f n) (g n) with e | e | e
      · exact .inl ⟨n, by omega, h, e⟩
      · refine .inr (.inl fun i hi => ?_)
        by_cases q : i < n
        · exact h i q
        · have : i = n := by omega
          subst this; exact e
      · exact .inr (.inr ⟨n, by omega, fun i hi => (h i hi).symm, e⟩)
    · exact .inr (.inr ⟨k, by omega, k2, k3⟩)
theorem LT.congr {n : Nat} {f g f' g' : Nat → Int} (h : LT n f g) (e1 : ∀ i, i < n → f' i = f i) (e2 : ∀ i, i < n → g' i = g i) : LT n f' g' := by
  obtain ⟨k, k1, k2, k3⟩ := h
  exact ⟨k, k1, fun i hi => by rw [e1 i (by omega), e2 i (by omega)]; exact k2 i hi, by rw [e1 k k1, e2 k k1]; exact k3⟩
theorem LT.mono {n m : Nat} {f g : Nat → Int} (h : LT n f g) (e : n ≤ m) : LT m f g := by
  obtain ⟨k, k1, k2, k3⟩ := h
  exact ⟨k, by omega, k2, k3⟩
/-- the i-th letter -/
def g (w : List Int) (i : Nat) : Int := (w[i]?).getD 0
theorem g_cons_zero (x : Int) (w : List Int) : g (x :: w) 0 = x := rfl
theorem g_cons_succ (x : Int) (w : List Int) (i : Nat) : g (x :: w) (i + 1) = g w i := rfl
theorem g_mem {w : List Int} {i : Nat} (h : i < w.length) : g w i ∈ w := by
  unfold g; rw [List.getElem?_eq_getElem h]; exact List.getElem_mem h
theorem g_left {u v : List Int} {i : Nat} (h : i < u.length) : g (u ++ v) i = g u i := by
  unfold g; rw [List.getElem?_append_left h]
theorem g_right {u v : List Int} {i : Nat} (h : u.length ≤ i) : g (u ++ v) i = g v (i - u.length) := by
  unfold g; rw [List.getElem?_append_right h]
theorem g_take {w : List Int} {m i : Nat} (h : i < m) : g (w.take m) i = g w i := by
  unfold g; rw [List.getElem?_take_of_lt h]
theorem g_drop {w : List Int} {m i : Nat} : g (w.drop m) i = g w (m + i) := by
  unfold g; rw [List.getElem?_drop]
theorem g_ext {u v : List Int} (h : u.length = v.length) (e : ∀ i, i < u.length → g u i = g v i) : u = v := by
  apply List.ext_getElem?
  intro i
  by_cases hi : i < u.length
  · have := e i hi
    unfold g at this
    rw [List.getElem?_eq_getElem hi, List.getElem?_eq_getElem (h ▸ hi)] at this ⊢
    exact congrArg some this
  · rw [List.getElem?_eq_none (by omega), List.getElem?_eq_none (by omega)]
theorem lexlt_iff : ∀ {u v : List Int}, u.length = v.length → (lexlt u v = true ↔ LT u.length (g u) (g v))
  | [], [], _ => by
    constructor
    · intro h; simp [lexlt] at h
    · rintro ⟨k, h, _⟩; simp at h
  | [], _ :: _, h => by simp at h
  | _ :: _, [], h => by simp at h
  | x :: u, y :: v, h => by
    have hl : u.length = v.length := by simpa using h
    have ih := lexlt_iff hl
    unfold lexlt
    by_cases e : x = y
    · rw [if_pos e, ih]
      constructor
      · rintro ⟨k, k1, k2, k3⟩
        refine ⟨k + 1, by rw [List.length_cons]; omega, fun i hi => ?_, k3⟩
        cases i with
        | zero => exact e
        | succ i => exact k2 i (by omega)
      · rintro ⟨k, k1, k2, k3⟩
        cases k with
        | zero => exact absurd k3 (by show ¬ x < y; omega)
        | succ k => exact ⟨k, by rw [List.length_cons] at k1; omega, fun i hi => k2 (i + 1) (by omega), k3⟩
    · rw [if_neg e, decide_eq_true_iff]
      constructor
      · intro q; exact ⟨0, by rw [List.length_cons]; omega, fun i hi => by omega, q⟩
      · rintro ⟨k, k1, k2, k3⟩
        cases k with
        | zero => exact k3
        | succ k => exact absurd (k2 0 (by omega)) e
/-! ### prenecklaces, Lyndon words -/
def PN (n : Nat) (f : Nat → Int) : Prop := ∀ j, j < n → ¬ LT (n - j) (fun i => f (i + j)) f
def Lyn (n : Nat) (f : Nat → Int) : Prop := 1 ≤ n ∧ ∀ j, 1 ≤ j → j < n → LT (n - j) f (fun i => f (i + j))
/-- the first m letters come again and again, b of them, which are a Lyndon word -/
structure PL (f : Nat → Int) (m b : Nat) : Prop where
  le : b ≤ m
  ly : Lyn b f
  per : ∀ i, b ≤ i → i < m → f i = f (i - b)
theorem PL.mod {f : Nat → Int} {m b : Nat} (h : PL f m b) : ∀ i, i < m → f i = f (i % b) := by
  intro i
  induction i using Nat.strongRecOn with
  | _ i ih =>
    intro hi
    have hb := h.ly.1
    by_cases q : i < b
    · rw [Nat.mod_eq_of_lt q]
    · rw [h.per i (by omega) hi, ih (i - b) (by omega) (by omega), ← Nat.mod_eq_sub_mod (by omega)]
theorem Lyn.one (f : Nat → Int) : Lyn 1 f := ⟨Nat.le_refl _, fun j h1 h2 => by omega⟩
theorem PL.one (f : Nat → Int) : PL f 1 1 := ⟨Nat.le_refl _, Lyn.one f, fun i h1 h2 => by omega⟩
theorem PL.same {f : Nat → Int} {m b : Nat} (h : PL f m b) (e : f m = f (m - b)) : PL f (m + 1) b := ⟨by have := h.le; omega, h.ly, fun i h1 h2 => by
  by_cases q : i < m
  · exact h.per i h1 q
  · have : i = m := by omega
    subst this; exact e⟩
/-- the last letter of a period tells by its place -/
theorem PL.back {f : Nat → Int} {m b q : Nat} (h : PL f m b) (hq : 1 ≤ q) (hm : q * b ≤ m) : f (m - q * b) = f (m - b) ∨ m = q * b ∧ False ∨ f (m - q * b) = f (m - b) := by
  have hb := h.ly.1
  have h1 : b ≤ q * b := Nat.le_mul_of_pos_left b (by omega)
  left
  rw [h.mod (m - q * b) (by omega), h.mod (m - b) (by omega)]
  congr 1
  have e : m - b = (m - q * b) + (q - 1) * b := by
    rw [Nat.sub_mul]; omega
  rw [e, Nat.add_mul_mod_self_right]
theorem PL.up {f : Nat → Int} {m b : Nat} (h : PL f m b) (e : f (m - b) < f m) : Lyn (m + 1) f := by
  have hb := h.ly.1
  have hbm := h.le
  refine ⟨by omega, fun j j1 j2 => ?_⟩
  have hj := Nat.div_add_mod j b
  have ht := Nat.mod_lt j (show 0 < b by omega)
  generalize hq : j / b = q at hj
  generalize htt : j % b = t at hj ht
  have hj' : j = q * b + t := by rw [Nat.mul_comm]; omega
  have per : ∀ i, i + j < m → f (i + j) = f ((i + t) % b) := fun i hi => by
    rw [h.mod (i + j) hi, hj']
    congr 1
    rw [show i + (q * b + t) = (i + t) + q * b by omega, Nat.add_mul_mod_self_right]
  have last : f (m - b) = f ((m - j + t) % b) := by
    rw [h.mod (m - b) (by omega)]
    congr 1
    by_cases hq1 : 1 ≤ q
    · have h1 : b ≤ q * b := Nat.le_mul_of_pos_left b (by omega)
      have e : m - b = (m - j + t) + (q - 1) * b := by rw [Nat.sub_mul]; omega
      rw [e, Nat.add_mul_mod_self_right]
    · have : q = 0 := by omega
      subst this
      have e2 : m - j + t = (m - b) + b := by omega
      rw [e2, Nat.add_mod_right]
  by_cases ht0 : t = 0
  · subst ht0
    refine ⟨m - j, by omega, fun i hi => ?_, ?_⟩
    · show f i = f (i + j)
      rw [per i (by omega), h.mod i (by omega)]; rfl
    · show f (m - j) < f (m - j + j)
      rw [show m - j + j = m by omega, h.mod (m - j) (by omega)]
      rw [last] at e
      exact e
  · obtain ⟨k, k1, k2, k3⟩ := h.ly.2 t (by omega) ht
    have inb : ∀ i, i ≤ k → (i + t) % b = i + t := fun i hi => Nat.mod_eq_of_lt (by omega)
    by_cases hk : k + j < m
    · refine ⟨k, by omega, fun i hi => ?_, ?_⟩
      · show f i = f (i + j)
        rw [per i (by omega), inb i (by omega)]; exact k2 i hi
      · show f k < f (k + j)
        rw [per k hk, inb k (by omega)]; exact k3
    · refine ⟨m - j, by omega, fun i hi => ?_, ?_⟩
      · show f i = f (i + j)
        rw [per i (by omega), inb i (by omega)]; exact k2 i (by omega)
      · show f (m - j) < f (m - j + j)
        rw [show m - j + j = m by omega]
        rw [last, inb (m - j) (by omega)] at e
        by_cases hk2 : m - j = k
        · rw [hk2] at e ⊢
          have k3' : f k < f (k + t) := k3
          omega
        · have k2' : f (m - j) = f (m - j + t) := k2 (m - j) (by omega)
          omega
theorem PL.upl {f : Nat → Int} {m b : Nat} (h : PL f m b) (e : f (m - b) < f m) : PL f (m + 1) (m + 1) := ⟨Nat.le_refl _, h.up e, fun i h1 h2 => by omega⟩
/-- a word of such periods, seen from any place -/
theorem PL.shift {f : Nat → Int} {m b j : Nat} (h : PL f m b) (hj : j < m) : (∀ i, i < m - j → f (i + j) = f i) ∨ ∃ k, k < b ∧ (∀ i, i < k → i < m - j → f (i + j) = f i) ∧ (k < m - j → f k < f (k + j)) := by
  have hb := h.ly.1
  have hbm := h.le
  have hdm := Nat.div_add_mod j b
  have ht := Nat.mod_lt j (show 0 < b by omega)
  generalize hq : j / b = q at hdm
  generalize htt : j % b = t at hdm ht
  have hj' : j = q * b + t := by rw [Nat.mul_comm]; omega
  have per : ∀ i, i + j < m → f (i + j) = f ((i + t) % b) := fun i hi => by
    rw [h.mod (i + j) hi, hj']
    congr 1
    rw [show i + (q * b + t) = (i + t) + q * b by omega, Nat.add_mul_mod_self_right]
  by_cases ht0 : t = 0
  · subst ht0
    left
    intro i hi
    rw [per i (by omega), Nat.add_zero, ← h.mod i (by omega)]
  · right
    obtain ⟨k, k1, k2, k3⟩ := h.ly.2 t (by omega) ht
    have inb : ∀ i, i ≤ k → (i + t) % b = i + t := fun i hi => Nat.mod_eq_of_lt (by omega)
    refine ⟨k, by omega, fun i hi hi2 => ?_, fun hk => ?_⟩
    · rw [per i (by omega), inb i (by omega)]; exact (k2 i hi).symm
    · rw [per k (by omega), inb k (by omega)]; exact k3
theorem PL.pn {f : Nat → Int} {m b : Nat} (h : PL f m b) : PN m f := fun j hj ⟨k, k1, k2, k3⟩ => by
  rcases h.shift hj with e | ⟨p, p1, p2, p3⟩
  · have := e k k1
    have k3' : f (k + j) < f k := k3
    omega
  · have k3' : f (k + j) < f k := k3
    rcases Nat.lt_trichotomy k p with q | q | q
    · have := p2 k q k1; omega
    · subst q; have := p3 k1; omega
    · have a : f (p + j) = f p := k2 p q
      have := p3 (by omega); omega
/-- the least prenecklace that begins with a Lyndon word -/
theorem pn_least {n b : Nat} {x f : Nat → Int} (hx : PN n x) (hb : 1 ≤ b) (e : ∀ i, i < b → i < n → x i = f i) : ¬ LT n x (fun i => f (i % b)) := fun ⟨k, k1, k2, k3⟩ => by
  have k3' : x k < f (k % b) := k3
  by_cases hk : k < b
  · rw [Nat.mod_eq_of_lt hk, e k hk k1] at k3'; omega
  · refine hx b (by omega) ⟨k - b, by omega, fun i hi => ?_, ?_⟩
    · show x (i + b) = x i
      have h1 : x (i + b) = f ((i + b) % b) := k2 (i + b) (by omega)
      have h2 : x i = f (i % b) := k2 i (by omega)
      rw [h1, h2, Nat.add_mod_right]
    · show x (k - b + b) < x (k - b)
      have h2 : x (k - b) = f ((k - b) % b) := k2 (k - b) (by omega)
      rw [show k - b + b = k by omega, h2, ← Nat.mod_eq_sub_mod (by omega)]; exact k3'
/-- all turnings of a word of n letters are no less -/
def Nec (n : Nat) (f : Nat → Int) : Prop := ∀ j, j < n → ¬ LT n (fun i => f ((i + j) % n)) f
theorem Nec.pn {n : Nat} {f : Nat → Int} (h : Nec n f) : PN n f := fun j hj ⟨k, k1, k2, k3⟩ => h j hj ⟨k, by omega, fun i hi => by
  show f ((i + j) % n) = f i
  rw [Nat.mod_eq_of_lt (by omega)]; exact k2 i hi, by
  show f ((k + j) % n) < f k
  rw [Nat.mod_eq_of_lt (by omega)]; exact k3⟩
theorem PL.nec {f : Nat → Int} {n b : Nat} (h : PL f n b) (hd : n % b = 0) : Nec n f := fun j hj ⟨k, k1, k2, k3⟩ => by
  have hb := h.ly.1
  have hdn : b ∣ n := Nat.dvd_of_mod_eq_zero hd
  have e : ∀ i, f ((i + j) % n) = f ((i + j) % b) := fun i => by
    rw [h.mod _ (Nat.mod_lt _ (by omega)), Nat.mod_mod_of_dvd _ hdn]
  have ht := Nat.mod_lt j (show 0 < b by omega)
  have e2 : ∀ i, f ((i + j) % n) = f ((i + j % b) % b) := fun i => by rw [e, Nat.add_mod_mod]
  generalize j % b = t at ht e2
  have k3' : f ((k + j) % n) < f k := k3
  have k2' : ∀ i, i < k → f ((i + j) % n) = f i := k2
  by_cases ht0 : t = 0
  · subst ht0
    rw [e2, Nat.add_zero, ← h.mod k k1] at k3'; omega
  · obtain ⟨p, p1, p2, p3⟩ := h.ly.2 t (by omega) ht
    have p3' : f p < f (p + t) := p3
    have inb : ∀ i, i ≤ p → (i + t) % b = i + t := fun i hi => Nat.mod_eq_of_lt (by omega)
    rcases Nat.lt_trichotomy k p with q | q | q
    · have a : f k = f (k + t) := p2 k q
      rw [e2, inb k (by omega)] at k3'; omega
    · subst q
      rw [e2, inb k (by omega)] at k3'; omega
    · have a := k2' p q
      rw [e2, inb p (by omega)] at a; omega
theorem PL.notnec {f : Nat → Int} {n b : Nat} (h : PL f n b) (hd : n % b ≠ 0) : ¬ Nec n f := fun hn => by
  have hb := h.ly.1
  have hbn := h.le
  have hdm := Nat.div_add_mod n b
  have ht := Nat.mod_lt n (show 0 < b by omega)
  generalize hq : n / b = q at hdm
  generalize htt : n % b = t at hdm ht hd
  obtain ⟨p, p1, p2, p3⟩ := h.ly.2 t (by omega) ht
  have p3' : f p < f (p + t) := p3
  have eq1 : n - t = q * b := by rw [Nat.mul_comm]; omega
  refine hn (n - t) (by omega) ⟨p + t, by omega, fun i hi => ?_, ?_⟩
  · show f ((i + (n - t)) % n) = f i
    by_cases hi2 : i < t
    · rw [Nat.mod_eq_of_lt (by omega), h.mod (i + (n - t)) (by omega), h.mod i (by omega), eq1, Nat.add_mul_mod_self_right]
    · rw [show i + (n - t) = (i - t) + n by omega, Nat.add_mod_right, Nat.mod_eq_of_lt (by omega)]
      have a : f (i - t) = f (i - t + t) := p2 (i - t) (by omega)
      rw [a, show i - t + t = i by omega]
  · show f ((p + t + (n - t)) % n) < f (p + t)
    rw [show p + t + (n - t) = p + n by omega, Nat.add_mod_right, Nat.mod_eq_of_lt (by omega)]
    exact p3'
/-- each prenecklace has its root -/
theorem PN.pl {f : Nat → Int} : ∀ {m : Nat}, 1 ≤ m → PN m f → ∃ b, PL f m b
  | 0, h, _ => by omega
  | 1, _, _ => ⟨1, .one f⟩
  | m + 2, _, h => by
    have h1 : PN (m + 1) f := fun j hj q => h j (by omega) (q.mono (by omega))
    obtain ⟨b, hb⟩ := PN.pl (by omega) h1
    have hb1 := hb.ly.1
    have hbm := hb.le
    rcases Int.lt_trichotomy (f (m + 1)) (f (m + 1 - b)) with e | e | e
    · exfalso
      refine h b (by omega) ⟨m + 1 - b, by omega, fun i hi => ?_, ?_⟩
      · show f (i + b) = f i
        rw [hb.per (i + b) (by omega) (by omega), show i + b - b = i by omega]
      · show f (m + 1 - b + b) < f (m + 1 - b)
        rw [show m + 1 - b + b = m + 1 by omega]; exact e
    · exact ⟨b, hb.same e⟩
    · exact ⟨m + 2, hb.upl e⟩
end NK
set_option Elab.async false
set_option linter.all false
set_option maxRecDepth 100000
set_option maxHeartbeats 1000000
namespace NK
open Ab RM
/-- a word of n letters below c -/
structure Wd (c : Int) (n : Nat) (w : List Int) : Prop where
  len : w.length = n
  lt : ∀ i, i < n → 0 ≤ g w i ∧ g w i < c
theorem Wd.mem {c : Int} {n : Nat} {w : List Int} (h : Wd c n w) : ∀ x ∈ w, 0 ≤ x ∧ x < c := fun x hx => by
  obtain ⟨i, hi, rfl⟩ := List.getElem_of_mem hx
  have := h.lt i (by rw [← h.len]; exact hi)
  unfold g at this
  rw [List.getElem?_eq_getElem hi] at this
  exact this
theorem wd_of {c : Int} {n : Nat} {w : List Int} (hl : w.length = n) (h : ∀ x ∈ w, 0 ≤ x ∧ x < c) : Wd c n w := ⟨hl, fun i hi => h _ (g_mem (by omega))⟩
theorem g_turn {w : List Int} {i j : Nat} (h : i < w.length) : g (turnOf w j) i = g w ((i + j) % w.length) := by
  unfold g
  rw [turnOf_get h]
  congr 2
theorem Wd.turn {c b : Int} {n : Nat} {w : List Int} (h : Wd c n w) : Wd c n (turnOf w b) := wd_of (by rw [turnOf_len]; exact h.len) fun x hx => h.mem x (turnOf_mem.mp hx)
theorem lt_iff {n : Nat} {u v : List Int} (hu : u.length = n) (hv : v.length = n) : lexlt u v = true ↔ LT n (g u) (g v) := by
  rw [lexlt_iff (by omega), hu]
theorem not_lt_iff {n : Nat} {u v : List Int} (hu : u.length = n) (hv : v.length = n) : lexlt u v = false ↔ ¬ LT n (g u) (g v) := by
  rw [← lt_iff hu hv]; simp
theorem nec_iff {n : Nat} {w : List Int} (hl : w.length = n) (hn : 1 ≤ n) : w = leastR w ↔ Nec n (g w) := by
  have hne : w ≠ [] := fun e => by rw [e] at hl; simp at hl; omega
  rw [isL_iff hne]
  unfold isL
  rw [List.all_eq_true]
  constructor
  · intro h j hj q
    have := h (turnOf w j) ((turns_mem hne).mpr ⟨j, rfl⟩)
    simp only [Bool.not_eq_true'] at this
    rw [not_lt_iff (n := n) (by rw [turnOf_len]; exact hl) hl] at this
    exact this (q.congr (fun i hi => by rw [g_turn (by omega), hl]) fun i hi => rfl)
  · intro h t ht
    obtain ⟨b, rfl⟩ := (turns_mem hne).mp ht
    simp only [Bool.not_eq_true']
    rw [not_lt_iff (n := n) (by rw [turnOf_len]; exact hl) hl]
    intro q
    have hp : (0 : Int) < w.length := by omega
    have b0 := Int.emod_nonneg b (by omega : (w.length : Int) ≠ 0)
    have b1 := Int.emod_lt_of_pos b hp
    have e : turnOf w b = turnOf w ((b % w.length).toNat : Nat) := turnOf_congr (by rw [Int.toNat_of_nonneg b0, Int.emod_emod_of_dvd _ (Int.dvd_refl _)])
    rw [e] at q
    exact h (b % w.length).toNat (by omega) (q.congr (fun i hi => by rw [g_turn (by omega), hl]) fun i hi => rfl)
theorem Nec.congr {n : Nat} {f h : Nat → Int} (e : ∀ i, i < n → f i = h i) (k : Nec n f) : Nec n h := fun j hj q => k j hj (q.congr (fun i hi => e _ (Nat.mod_lt _ (by omega))) fun i hi => e i hi)
theorem least_nec {n : Nat} {w : List Int} (hl : w.length = n) (hn : 1 ≤ n) : Nec n (g (leastR w)) := by
  have hne : w ≠ [] := fun e => by rw [e] at hl; simp at hl; omega
  have h1 := leastR_len w hne
  rw [← nec_iff (by omega) hn]
  have := leastT_turn hne
  conv => rhs; rw [← this, leastR_turn hne]
/-! ### a word's value -/
def val (c : Int) : List Int → Int
  | [] => 0
  | x :: w => x * c ^ w.length + val c w
theorem val_range {c : Int} : ∀ {w : List Int}, (∀ x ∈ w, 0 ≤ x ∧ x < c) → 0 ≤ val c w ∧ val c w < c ^ w.length
  | [], _ => by simp [val]
  | x :: w, h => by
    have ih := val_range fun y hy => h y (List.mem_cons_of_mem _ hy)
    have hx := h x List.mem_cons_self
    have hp : 0 ≤ c ^ w.length := Int.pow_nonneg (by omega)
    have h1 : 0 ≤ x * c ^ w.length := Int.mul_nonneg hx.1 hp
    have h2 : (x + 1) * c ^ w.length ≤ c * c ^ w.length := Int.mul_le_mul_of_nonneg_right (by omega) hp
    rw [Int.add_mul, Int.one_mul] at h2
    rw [List.length_cons, Int.pow_succ, Int.mul_comm _ c]
    unfold val
    omega
theorem val_lt {c : Int} : ∀ {u v : List Int}, u.length = v.length → (∀ x ∈ u, 0 ≤ x ∧ x < c) → (∀ x ∈ v, 0 ≤ x ∧ x < c) → lexlt u v = true → val c u < val c v
  | [], [], _, _, _, h => by simp [lexlt] at h
  | [], _ :: _, h, _, _, _ => by simp at h
  | _ :: _, [], h, _, _, _ => by simp at h
  | x :: u, y :: v, hl, hu, hv, h => by
    have hl2 : u.length = v.length := by simpa using hl
    have ru := val_range fun y hy => hu y (List.mem_cons_of_mem _ hy)
    have rv := val_range fun y hy => hv y (List.mem_cons_of_mem _ hy)
    unfold lexlt at h
    unfold val
    by_cases e : x = y
    · rw [if_pos e] at h
      have := val_lt hl2 (fun y hy => hu y (List.mem_cons_of_mem _ hy)) (fun y hy => hv y (List.mem_cons_of_mem _ hy)) h
      rw [e, hl2]; omega
    · rw [if_neg e] at h
      have h2 : x < y := of_decide_eq_true h
      have hy := hv y List.mem_cons_self
      have hp : 0 ≤ c ^ v.length := Int.pow_nonneg (by omega)
      have h3 : (x + 1) * c ^ v.length ≤ y * c ^ v.length := Int.mul_le_mul_of_nonneg_right (by omega) hp
      rw [Int.add_mul, Int.one_mul] at h3
      rw [hl2] at ru ⊢
      omega
theorem Wd.val_lt {c : Int} {n : Nat} {u v : List Int} (hu : Wd c n u) (hv : Wd c n v) (h : LT n (g u) (g v)) : (val c u).toNat < (val c v).toNat := by
  have := NK.val_lt (by rw [hu.len, hv.len]) hu.mem hv.mem ((lt_iff hu.len hv.len).mpr h)
  have r := val_range hu.mem
  omega
theorem Wd.val_up {c : Int} {n : Nat} {u v : List Int} (hu : Wd c n u) (hv : Wd c n v) (h : LT n (g u) (g v)) : (c ^ n - val c v).toNat < (c ^ n - val c u).toNat := by
  have := NK.val_lt (by rw [hu.len, hv.len]) hu.mem hv.mem ((lt_iff hu.len hv.len).mpr h)
  have r := val_range hv.mem
  rw [hv.len] at r
  omega
theorem eq_of {n : Nat} {u v : List Int} (hu : u.length = n) (hv : v.length = n) (h1 : ¬ LT n (g u) (g v)) (h2 : ¬ LT n (g v) (g u)) : u = v := by
  rcases LT.tri n (g u) (g v) with h | h | h
  · exact absurd h h1
  · exact g_ext (by omega) fun i hi => h i (by omega)
  · exact absurd h h2
theorem lt_of_le {n : Nat} {f h k : Nat → Int} (a : ¬ LT n h f) (b : LT n h k) : LT n f k := by
  rcases LT.tri n f h with q | q | q
  · exact q.trans b
  · exact b.congr q fun _ _ => rfl
  · exact absurd q a
theorem lt_of_lt {n : Nat} {f h k : Nat → Int} (a : LT n f h) (b : ¬ LT n k h) : LT n f k := by
  rcases LT.tri n h k with q | q | q
  · exact a.trans q
  · exact a.congr (fun _ _ => rfl) fun i hi => (q i hi).symm
  · exact absurd q b
/-! ### the greatest necklace no greater than a row -/
structure IsFloor (c : Int) (n : Nat) (row r : List Int) : Prop where
  wd : Wd c n r
  nec : Nec n (g r)
  le : ¬ LT n (g row) (g r)
  top : ∀ x, Wd c n x → Nec n (g x) → ¬ LT n (g row) (g x) → ¬ LT n (g r) (g x)
theorem IsFloor.uniq {c : Int} {n : Nat} {row r q : List Int} (a : IsFloor c n row r) (b : IsFloor c n row q) : r = q :=
  eq_of a.wd.len b.wd.len (a.top q b.wd b.nec b.le) (b.top r a.wd a.nec a.le)
/-- one step down -/
def down (c : Int) (n b : Nat) (now : List Int) : List Int := now.take (b - 1) ++ [g now (b - 1) - 1] ++ List.replicate (n - b) (c - 1)
theorem g_rep {k i : Nat} {x : Int} (h : i < k) : g (List.replicate k x) i = x := by unfold g; rw [List.getElem?_replicate, if_pos h]; rfl
theorem g_one {x : Int} : g [x] 0 = x := rfl
theorem g_put {u v : List Int} {x : Int} {a i : Nat} (hu : u.length = a) : g (u ++ [x] ++ v) i = if i < a then g u i else if i = a then x else g v (i - a - 1) := by
  by_cases h1 : i < a
  · rw [if_pos h1, g_left (by simp; omega), g_left (by omega)]
  · rw [if_neg h1]
    by_cases h2 : i = a
    · rw [if_pos h2, g_left (by simp; omega), g_right (by omega), h2, hu, Nat.sub_self]; rfl
    · rw [if_neg h2, g_right (by simp; omega)]
      congr 1
      simp; omega
theorem g_down {c : Int} {n b i : Nat} {now : List Int} (hl : now.length = n) (hb : 1 ≤ b) (hbn : b ≤ n) (hi : i < n) : g (down c n b now) i = if i < b - 1 then g now i else if i = b - 1 then g now (b - 1) - 1 else c - 1 := by
  unfold down
  rw [g_put (a := b - 1) (by rw [List.length_take]; omega)]
  by_cases h1 : i < b - 1
  · rw [if_pos h1, if_pos h1, g_take h1]
  · rw [if_neg h1, if_neg h1]
    by_cases h2 : i = b - 1
    · rw [if_pos h2, if_pos h2]
    · rw [if_neg h2, if_neg h2, g_rep (by omega)]
theorem down_len {c : Int} {n b : Nat} {now : List Int} (hl : now.length = n) (hb : 1 ≤ b) (hbn : b ≤ n) : (down c n b now).length = n := by unfold down; simp; omega
structure Stop (n at_ b : Nat) (f : Nat → Int) : Prop where
  pl : PL f at_ b
  le : at_ ≤ n
  no : ¬ (at_ = n ∧ n % b = 0)
  low : at_ < n → f at_ < f (at_ - b)
theorem down_ok {c : Int} {n a b : Nat} {now : List Int} (hc : 1 ≤ c) (hw : Wd c n now) (S : Stop n a b (g now)) :
    Wd c n (down c n b now) ∧ LT n (g (down c n b now)) (g now) ∧ ∀ x, Wd c n x → Nec n (g x) → ¬ LT n (g now) (g x) → ¬ LT n (g (down c n b now)) (g x) := by
  have hb := S.pl.ly.1
  have hba := S.pl.le
  have han := S.le
  have hl := hw.len
  have gd := fun i (hi : i < n) => g_down (c := c) hl hb (by omega) hi
  have pos : 1 ≤ g now (b - 1) := by
    have h0 := (hw.lt (b - 1) (by omega)).1
    rcases Int.lt_or_le 0 (g now (b - 1)) with h | h
    · omega
    · exfalso
      have e0 : g now (b - 1) = 0 := by omega
      by_cases hb2 : 2 ≤ b
      · obtain ⟨k, k1, _, k3⟩ := S.pl.ly.2 (b - 1) (by omega) (by omega)
        have : k = 0 := by omega
        subst this
        have k3' : g now 0 < g now (0 + (b - 1)) := k3
        rw [Nat.zero_add, e0] at k3'
        have := (hw.lt 0 (by omega)).1
        omega
      · have hb1 : b = 1 := by omega
        subst hb1
        by_cases ha : a < n
        · have q := S.low ha
          have m := S.pl.mod (a - 1) (by omega)
          rw [m, Nat.mod_one] at q
          have e0' : g now 0 = 0 := e0
          have := (hw.lt a ha).1
          omega
        · exact S.no ⟨by omega, Nat.mod_one n⟩
  have wd : Wd c n (down c n b now) := ⟨down_len hl hb (by omega), fun i hi => by
    rw [gd i hi]
    split
    · exact hw.lt i hi
    · split
      · have := (hw.lt (b - 1) (by omega)); omega
      · omega⟩
  refine ⟨wd, ⟨b - 1, by omega, fun i hi => by rw [gd i (by omega), if_pos hi], by rw [gd (b - 1) (by omega), if_neg (by omega), if_pos rfl]; omega⟩, fun x hx hnx hle q => ?_⟩
  obtain ⟨k, k1, k2, k3⟩ := q
  have agree : ∀ i, i < b → g x i = g now i := by
    have nk : b - 1 ≤ k := by
      rcases Nat.lt_or_ge k (b - 1) with h | h
      · exfalso
        rw [gd k k1, if_pos h] at k3
        exact hle ⟨k, k1, fun i hi => by rw [← k2 i hi, gd i (by omega), if_pos (by omega)], k3⟩
      · exact h
    have nk2 : k ≤ b - 1 := by
      rcases Nat.lt_or_ge (b - 1) k with h | h
      · exfalso
        rw [gd k k1, if_neg (by omega), if_neg (by omega)] at k3
        have := (hx.lt k k1).2
        omega
      · exact h
    have ek : k = b - 1 := by omega
    subst ek
    rw [gd (b - 1) k1, if_neg (by omega), if_pos rfl] at k3
    have pre : ∀ i, i < b - 1 → g now i = g x i := fun i hi => by rw [← k2 i hi, gd i (by omega), if_pos hi]
    have eqb : g x (b - 1) = g now (b - 1) := by
      rcases Int.lt_or_le (g now (b - 1)) (g x (b - 1)) with h | h
      · exact absurd ⟨b - 1, k1, pre, h⟩ hle
      · omega
    intro i hi
    by_cases h : i < b - 1
    · exact (pre i h).symm
    · have : i = b - 1 := by omega
      subst this; exact eqb
  have least := pn_least hnx.pn hb (fun i hi _ => agree i hi)
  by_cases ha : a < n
  · have q := S.low ha
    have lp : LT n (g now) (fun i => g now (i % b)) := ⟨a, ha, fun i hi => S.pl.mod i hi, by
      show g now a < g now (a % b)
      rw [Nat.mod_eq_sub_mod (by omega), ← S.pl.mod (a - b) (by omega)]; exact q⟩
    exact hle (lt_of_lt lp least)
  · have ea : a = n := by omega
    subst ea
    have pm : ∀ i, i < a → g now i = (fun i => g now (i % b)) i := fun i hi => S.pl.mod i hi
    rcases LT.tri a (g x) (g now) with h | h | h
    · exact least (h.congr (fun _ _ => rfl) fun i hi => (pm i hi).symm)
    · exact S.pl.notnec (fun z => S.no ⟨rfl, z⟩) (hnx.congr h)
    · exact hle h
theorem IsFloor.of_down {c : Int} {n : Nat} {row now r : List Int} (h1 : ∀ x, Wd c n x → Nec n (g x) → ¬ LT n (g row) (g x) → ¬ LT n (g now) (g x)) (h2 : ¬ LT n (g row) (g now)) (wd : Wd c n now) (nec : Nec n (g now)) : IsFloor c n row now := ⟨wd, nec, h2, h1⟩
/-! ### the next prenecklace -/
def upw (n a : Nat) (now : List Int) : List Int := (rep (now.take a ++ [g now a + 1]) n).take n
theorem rep_get (s : List Int) (hs : s ≠ []) : ∀ (q i : Nat), i < q * s.length → g (List.replicate q s).flatten i = g s (i % s.length)
  | 0, i, h => by simp at h
  | q + 1, i, h => by
    have hp := List.length_pos_iff.mpr hs
    rw [List.replicate_succ, List.flatten_cons]
    by_cases hi : i < s.length
    · rw [g_left hi, Nat.mod_eq_of_lt hi]
    · rw [g_right (by omega), rep_get s hs q (i - s.length) (by rw [Nat.add_mul] at h; omega), ← Nat.mod_eq_sub_mod (by omega)]
theorem g_upw {n a i : Nat} {now : List Int} (hl : now.length = n) (ha : a < n) (hi : i < n) : g (upw n a now) i = if i % (a + 1) < a then g now (i % (a + 1)) else g now a + 1 := by
  unfold upw rep
  have hlen : (now.take a ++ [g now a + 1]).length = a + 1 := by simp; omega
  rw [g_take hi, Int.toNat_natCast, rep_get _ (by simp) n i (by rw [hlen]; exact Nat.lt_of_lt_of_le hi (Nat.le_mul_of_pos_right n (by omega))), hlen]
  have hm := Nat.mod_lt i (show 0 < a + 1 by omega)
  by_cases h : i % (a + 1) < a
  · rw [if_pos h, g_left (by simp; omega), g_take h]
  · rw [if_neg h, g_right (by simp; omega)]
    have : i % (a + 1) - (now.take a).length = 0 := by simp; omega
    rw [this]; rfl
theorem upw_len {n a : Nat} {now : List Int} (hl : now.length = n) (ha : a < n) : (upw n a now).length = n := by
  unfold upw
  rw [List.length_take, rep_len, Int.toNat_natCast]
  have : (now.take a ++ [g now a + 1]).length = a + 1 := by simp; omega
  rw [this]
  have : n ≤ n * (a + 1) := Nat.le_mul_of_pos_right n (by omega)
  omega
theorem upw_ok {c : Int} {n a : Nat} {now : List Int} (hw : Wd c n now) (hp : PN n (g now)) (ha : a < n) (h1 : g now a < c - 1) (h2 : ∀ i, a < i → i < n → g now i = c - 1) :
    Wd c n (upw n a now) ∧ LT n (g now) (g (upw n a now)) ∧ PL (g (upw n a now)) n (a + 1) ∧ ∀ x, Wd c n x → PN n (g x) → LT n (g now) (g x) → ¬ LT n (g x) (g (upw n a now)) := by
  have hl := hw.len
  have gu := fun i (hi : i < n) => g_upw (now := now) hl ha hi
  have low : ∀ i, i < a → g (upw n a now) i = g now i := fun i hi => by
    rw [gu i (by omega), Nat.mod_eq_of_lt (by omega), if_pos hi]
  have ata : g (upw n a now) a = g now a + 1 := by rw [gu a ha, Nat.mod_eq_of_lt (by omega), if_neg (by omega)]
  have wd : Wd c n (upw n a now) := ⟨upw_len hl ha, fun i hi => by
    rw [gu i hi]
    split
    · exact hw.lt _ (by omega)
    · have := hw.lt a ha; omega⟩
  have ly : Lyn (a + 1) (g (upw n a now)) := by
    by_cases ha0 : a = 0
    · subst ha0; exact Lyn.one _
    · have pna : PN a (g now) := fun j hj q => hp j (by omega) (q.mono (by omega))
      obtain ⟨b, pl⟩ := PN.pl (by omega) pna
      have hb := pl.ly.1
      have hba := pl.le
      have pl2 : PL (g (upw n a now)) a b := ⟨pl.le, ⟨hb, fun j j1 j2 => (pl.ly.2 j j1 j2).congr (fun i hi => low i (by omega)) fun i hi => low (i + j) (by omega)⟩, fun i i1 i2 => by rw [low i i2, low (i - b) (by omega)]; exact pl.per i i1 i2⟩
      apply pl2.up
      rw [ata, low (a - b) (by omega)]
      rcases Int.lt_or_le (g now a) (g now (a - b)) with h | h
      · exfalso
        refine hp b (by omega) ⟨a - b, by omega, fun i hi => ?_, ?_⟩
        · show g now (i + b) = g now i
          rw [pl.per (i + b) (by omega) (by omega), show i + b - b = i by omega]
        · show g now (a - b + b) < g now (a - b)
          rw [show a - b + b = a by omega]; exact h
      · omega
  have pl : PL (g (upw n a now)) n (a + 1) := ⟨by omega, ly, fun i i1 i2 => by rw [gu i i2, gu (i - (a + 1)) (by omega), ← Nat.mod_eq_sub_mod i1]⟩
  refine ⟨wd, ⟨a, ha, fun i hi => (low i hi).symm, by rw [ata]; omega⟩, pl, fun x hx hpx ⟨k, k1, k2, k3⟩ q => ?_⟩
  have ka : k ≤ a := by
    rcases Nat.lt_or_ge a k with h | h
    · exfalso
      have := h2 k h k1
      have := (hx.lt k k1).2
      omega
    · exact h
  by_cases hk : k < a
  · exact LT.asymm (m := n) (f := g (upw n a now)) (g := g x) ⟨k, k1, fun i hi => by rw [low i (by omega)]; exact k2 i hi, by rw [low k hk]; exact k3⟩ q
  · have ek : k = a := by omega
    subst ek
    rcases Int.lt_or_le (g now k + 1) (g x k) with h | h
    · exact LT.asymm (m := n) (f := g (upw n k now)) (g := g x) ⟨k, k1, fun i hi => by rw [low i hi]; exact k2 i hi, by rw [ata]; exact h⟩ q
    · have exk : g x k = g now k + 1 := by omega
      have agree : ∀ i, i < k + 1 → i < n → g x i = g (upw n k now) i := fun i hi _ => by
        by_cases h : i < k
        · rw [low i h]; exact (k2 i h).symm
        · have : i = k := by omega
          subst this; rw [ata, exk]
      exact pn_least hpx (by omega) agree (q.congr (fun _ _ => rfl) fun i hi => (pl.mod i hi).symm)
/-! ### the row ahead of one -/
def predw (c : Int) (n a : Nat) (now : List Int) : List Int := down c n (a + 1) now
theorem predw_ok {c : Int} {n a : Nat} {now : List Int} (hc : 1 ≤ c) (hw : Wd c n now) (ha : a < n) (h1 : 0 < g now a) (h2 : ∀ i, a < i → i < n → g now i = 0) :
    Wd c n (predw c n a now) ∧ ∀ x, Wd c n x → (LT n (g x) (g now) ↔ ¬ LT n (g (predw c n a now)) (g x)) := by
  have hl := hw.len
  have gd : ∀ i, i < n → g (predw c n a now) i = if i < a then g now i else if i = a then g now a - 1 else c - 1 := fun i hi => g_down (c := c) (b := a + 1) hl (by omega) (by omega) hi
  have wd : Wd c n (predw c n a now) := ⟨down_len hl (by omega) (by omega), fun i hi => by
    rw [gd i hi]
    split
    · exact hw.lt i hi
    · split
      · have := hw.lt a ha; omega
      · omega⟩
  have lt : LT n (g (predw c n a now)) (g now) := ⟨a, ha, fun i hi => by rw [gd i (by omega), if_pos hi], by rw [gd a ha, if_neg (by omega), if_pos rfl]; omega⟩
  refine ⟨wd, fun x hx => ⟨fun ⟨k, k1, k2, k3⟩ ⟨p, p1, p2, p3⟩ => ?_, fun q => lt_of_le q lt⟩⟩
  have ka : k ≤ a := by
    rcases Nat.lt_or_ge a k with h | h
    · exfalso
      have := h2 k h k1
      have := (hx.lt k k1).1
      omega
    · exact h
  rw [gd p p1] at p3
  by_cases pa : p < a
  · rw [if_pos pa] at p3
    rcases Nat.lt_trichotomy k p with e | e | e
    · have := p2 k e
      rw [gd k k1, if_pos (by omega)] at this
      omega
    · subst e; omega
    · have := k2 p e; omega
  · rw [if_neg pa] at p3
    by_cases pe : p = a
    · rw [if_pos pe] at p3
      subst pe
      rcases Nat.lt_or_ge k p with e | e
      · have := p2 k e
        rw [gd k k1, if_pos e] at this
        omega
      · have : k = p := by omega
        subst this; omega
    · rw [if_neg pe] at p3
      have := (hx.lt p p1).2
      omega
end NK
set_option Elab.async false
set_option linter.all false
set_option maxRecDepth 100000
set_option maxHeartbeats 1000000
namespace NK
open Ab RM
/-! ### all words -/
def wordsL (c : Nat) : Nat → List (List Int)
  | 0 => [[]]
  | n + 1 => (List.range c).flatMap fun x : Nat => (wordsL c n).map fun w => (x : Int) :: w
theorem mem_words {c : Nat} : ∀ {n : Nat} {w : List Int}, w ∈ wordsL c n ↔ Wd c n w
  | 0, w => by
    constructor
    · intro h
      have : w = [] := by simpa [wordsL] using h
      subst this
      exact ⟨rfl, fun i hi => by omega⟩
    · intro h
      have := List.length_eq_zero_iff.mp h.len
      subst this; simp [wordsL]
  | n + 1, w => by
    unfold wordsL
    rw [List.mem_flatMap]
    constructor
    · rintro ⟨x, hx, h⟩
      obtain ⟨v, hv, rfl⟩ := List.mem_map.mp h
      have ih := mem_words.mp hv
      rw [List.mem_range] at hx
      refine ⟨by rw [List.length_cons, ih.len], fun i hi => ?_⟩
      cases i with
      | zero => rw [g_cons_zero]; omega
      | succ i => rw [g_cons_succ]; exact ih.lt i (by omega)
    · intro h
      cases w with
      | nil => have := h.len; simp at this
      | cons x v =>
        have h0 := h.lt 0 (by omega)
        rw [g_cons_zero] at h0
        refine ⟨x.toNat, List.mem_range.mpr (by omega), List.mem_map.mpr ⟨v, mem_words.mpr ⟨by have := h.len; simpa using this, fun i hi => ?_⟩, by rw [Int.toNat_of_nonneg h0.1]⟩⟩
        have := h.lt (i + 1) (by omega)
        rw [g_cons_succ] at this
        exact this
theorem words_sorted (c : Nat) : ∀ n, (wordsL c n).Pairwise fun u v => lexlt u v = true
  | 0 => by simp [wordsL]
  | n + 1 => by
    unfold wordsL
    rw [List.pairwise_flatMap]
    constructor
    · intro x _
      rw [List.pairwise_map]
      refine (words_sorted c n).imp fun {u v} h => ?_
      unfold lexlt
      rw [if_pos rfl]; exact h
    · refine List.pairwise_lt_range.imp fun {x y} (h : x < y) => ?_
      intro u hu v hv
      obtain ⟨a, _, rfl⟩ := List.mem_map.mp hu
      obtain ⟨b, _, rfl⟩ := List.mem_map.mp hv
      unfold lexlt
      rw [if_neg (by omega)]
      exact decide_eq_true (by omega)
theorem nodup_of_sorted {l : List (List Int)} (h : l.Pairwise fun u v => lexlt u v = true) : l.Nodup := h.imp fun {u v} q e => by
  subst e; rw [lexlt_irrefl] at q; cases q
theorem words_nodup (c n : Nat) : (wordsL c n).Nodup := nodup_of_sorted (words_sorted c n)
theorem words_len (c : Nat) : ∀ n, (wordsL c n).length = c ^ n
  | 0 => rfl
  | n + 1 => by
    unfold wordsL
    have : ∀ l : List Nat, (l.flatMap fun x : Nat => (wordsL c n).map fun w => (x : Int) :: w).length = l.length * c ^ n := by
      intro l
      induction l with
      | nil => simp
      | cons x l ih => rw [List.flatMap_cons, List.length_append, ih, List.length_map, words_len c n, List.length_cons, Nat.add_mul]; omega
    rw [this, List.length_range, Nat.pow_succ, Nat.mul_comm]
/-- all least rows -/
def necks (c n : Nat) : List (List Int) := (wordsL c n).filter isL
theorem mem_necks {c n : Nat} {w : List Int} (hn : 1 ≤ n) : w ∈ necks c n ↔ Wd c n w ∧ Nec n (g w) := by
  unfold necks
  rw [List.mem_filter, mem_words]
  constructor
  · rintro ⟨h1, h2⟩
    have hne : w ≠ [] := fun e => by have := h1.len; rw [e] at this; simp at this; omega
    exact ⟨h1, (nec_iff h1.len hn).mp ((isL_iff hne).mpr h2)⟩
  · rintro ⟨h1, h2⟩
    have hne : w ≠ [] := fun e => by have := h1.len; rw [e] at this; simp at this; omega
    exact ⟨h1, (isL_iff hne).mp ((nec_iff h1.len hn).mpr h2)⟩
theorem necks_sorted (c n : Nat) : (necks c n).Pairwise fun u v => lexlt u v = true := (words_sorted c n).filter _
theorem necks_nodup (c n : Nat) : (necks c n).Nodup := nodup_of_sorted (necks_sorted c n)
/-! ### lists of the same things -/
theorem len_le {α : Type} [DecidableEq α] : ∀ {l m : List α}, l.Nodup → (∀ x ∈ l, x ∈ m) → l.length ≤ m.length
  | [], _, _, _ => Nat.zero_le _
  | x :: l, m, nd, h => by
    have nd2 := List.nodup_cons.mp nd
    have hx := h x List.mem_cons_self
    have := len_le (m := m.erase x) nd2.2 fun y hy => (List.mem_erase_of_ne fun (e : y = x) => nd2.1 (e ▸ hy)).mpr (h y (List.mem_cons_of_mem _ hy))
    rw [List.length_erase_of_mem hx] at this
    have := List.length_pos_of_mem hx
    rw [List.length_cons]; omega
theorem len_eq {α : Type} [DecidableEq α] {l m : List α} (h1 : l.Nodup) (h2 : m.Nodup) (h : ∀ x, x ∈ l ↔ x ∈ m) : l.length = m.length :=
  Nat.le_antisymm (len_le h1 fun x hx => (h x).mp hx) (len_le h2 fun x hx => (h x).mpr hx)
theorem len_sum {α : Type} (p : α → Bool) (l : List α) : (((l.filter p).length : Nat) : Int) = (l.map fun x => if p x = true then (1 : Int) else 0).sum := by
  rw [← sm_filter p (fun _ => (1 : Int)), sm_const, Int.mul_one]
/-! ### turnings that leave a row -/
theorem per_mul {w : List Int} {a : Int} (h : turnOf w a = w) : ∀ m : Nat, turnOf w (a * m) = w
  | 0 => by rw [show a * ((0 : Nat) : Int) = 0 by simp, turnOf_zero]
  | m + 1 => by
    rw [show a * ((m + 1 : Nat) : Int) = a * m + a by rw [Int.natCast_add, Int.mul_add]; simp, ← turnOf_turnOf, per_mul h m, h]
theorem per_neg {w : List Int} {a : Int} (h : turnOf w a = w) : turnOf w (-a) = w := by
  conv => lhs; rw [← h]
  rw [turnOf_turnOf, show a + -a = 0 by omega, turnOf_zero]
theorem per_gcd {w : List Int} : ∀ (a b : Nat), turnOf w a = w → turnOf w b = w → turnOf w (Nat.gcd a b : Nat) = w := by
  intro a
  induction a using Nat.strongRecOn with
  | _ a ih =>
    intro b ha hb
    by_cases h0 : a = 0
    · subst h0; rw [Nat.gcd_zero_left]; exact hb
    · rw [Nat.gcd_rec]
      refine ih (b % a) (Nat.mod_lt _ (by omega)) a ?_ ha
      have e : ((b % a : Nat) : Int) = (b : Int) + -((a : Int) * ((b / a : Nat) : Int)) := by
        have := Nat.div_add_mod b a
        have e2 : ((a * (b / a) : Nat) : Int) = (a : Int) * ((b / a : Nat) : Int) := Int.natCast_mul ..
        omega
      rw [e, ← turnOf_turnOf, hb]
      exact per_neg (per_mul ha _)
theorem per_iff {w : List Int} {n k : Nat} (hl : w.length = n) : turnOf w k = w ↔ turnOf w (Nat.gcd n k : Nat) = w := by
  constructor
  · intro h
    exact per_gcd n k (by rw [← hl]; exact turnOf_full w) h
  · intro h
    obtain ⟨m, hm⟩ := Nat.gcd_dvd_right n k
    have := per_mul h m
    rw [← Int.natCast_mul, ← hm] at this
    exact this
theorem sum_shift1 (f : Nat → Int) : ∀ n, ((rngN n).map fun j => f (j + 1)).sum = ((rngN n).map f).sum - f 1 + f (n + 1)
  | 0 => by simp [rngN]; omega
  | n + 1 => by
    rw [rngN_succ, sm_app, sm_app, sum_shift1 f n]
    simp only [List.map_cons, List.map_nil, List.sum_cons, List.sum_nil]
    omega
theorem sum_shift {n : Nat} (f : Nat → Int) (hf : ∀ i, f (i + n) = f i) : ∀ a, ((rngN n).map fun j => f (j + a)).sum = ((rngN n).map f).sum
  | 0 => rfl
  | a + 1 => by
    have ih := sum_shift f hf a
    have := sum_shift1 (fun j => f (j + a)) n
    have e : ((rngN n).map fun j => f (j + (a + 1))).sum = ((rngN n).map fun j => f (j + 1 + a)).sum := by
      apply sm_congr; intro j _; rw [show j + (a + 1) = j + 1 + a by omega]
    rw [e]
    have h1 : f (n + 1 + a) = f (1 + a) := by rw [show n + 1 + a = (1 + a) + n by omega, hf]
    have this2 : ((rngN n).map fun j => f (j + 1 + a)).sum = ((rngN n).map fun j => f (j + a)).sum - f (1 + a) + f (n + 1 + a) := this
    rw [this2, ih, h1]; omega
/-- classes counted by the turnings that leave their rows -/
theorem burnside {c n : Nat} (h1 : 1 ≤ n) (h2 : n ≤ 200) (P : List Int → Bool) (hP : ∀ w (b : Int), w ∈ wordsL c n → P (turnOf w b) = P w) :
    (n : Int) * (((necks c n).filter P).length : Nat) = ((divsN n).map fun d => (phiN (n / d) : Int) * ((((wordsL c n).filter fun w => P w && decide (turnOf w d = w)).length : Nat) : Int)).sum := by
  have ne : ∀ w ∈ wordsL c n, w ≠ [] := fun w hw e => by have := (mem_words.mp hw).len; rw [e] at this; simp at this; omega
  -- by the common numbers
  have s1 : ((divsN n).map fun d => (phiN (n / d) : Int) * ((((wordsL c n).filter fun w => P w && decide (turnOf w d = w)).length : Nat) : Int)).sum = ((rngN n).map fun k : Nat => ((wordsL c n).map fun w => if (P w && decide (turnOf w k = w)) = true then (1 : Int) else 0).sum).sum := by
    rw [← sum_gcd h1 h2 fun d => ((((wordsL c n).filter fun w => P w && decide (turnOf w d = w)).length : Nat) : Int)]
    apply sm_congr
    intro k _
    rw [len_sum]
    apply sm_congr
    intro w hw
    have := per_iff (k := k) (mem_words.mp hw).len
    have e : decide (turnOf w (Nat.gcd n k : Nat) = w) = decide (turnOf w k = w) := decide_eq_decide.mpr this.symm
    rw [e]
  rw [s1, sm_swap]
  -- each row by its least one
  have s2 : ((wordsL c n).map fun w => ((rngN n).map fun k : Nat => if (P w && decide (turnOf w k = w)) = true then (1 : Int) else 0).sum).sum = ((wordsL c n).map fun w => ((rngN n).map fun k : Nat => (((necks c n).filter P).map fun x => if leastR w = x then (if turnOf x k = w then (1 : Int) else 0) else 0).sum).sum).sum := by
    apply sm_congr
    intro w hw
    have hwd := mem_words.mp hw
    have hne := ne w hw
    have hlm : leastR w ∈ necks c n := (mem_necks h1).mpr ⟨by rw [← leastT_turn hne]; exact hwd.turn, least_nec hwd.len h1⟩
    have hPl : P (leastR w) = P w := by rw [← leastT_turn hne]; exact hP w _ hw
    cases hp : P w with
    | false =>
      have z : ∀ k : Nat, (((necks c n).filter P).map fun x => if leastR w = x then (if turnOf x k = w then (1 : Int) else 0) else 0).sum = 0 := fun k => by
        rw [sm_congr (g := fun _ => 0) fun x hx => ?_]
        · exact sm_zero _
        · rw [if_neg fun e => ?_]
          have := (List.mem_filter.mp hx).2
          rw [← e, hPl, hp] at this
          cases this
      rw [sm_congr (g := fun _ => 0) fun k _ => by simp, sm_congr (g := fun _ => 0) fun k _ => z k]
    | true =>
      have hin : leastR w ∈ (necks c n).filter P := List.mem_filter.mpr ⟨hlm, by rw [hPl, hp]⟩
      have pick : ∀ k : Nat, (((necks c n).filter P).map fun x => if leastR w = x then (if turnOf x k = w then (1 : Int) else 0) else 0).sum = if turnOf (leastR w) k = w then (1 : Int) else 0 := fun k => sm_pick (fun x => if turnOf x k = w then (1 : Int) else 0) ((necks_nodup c n).filter _) hin
      rw [sm_congr fun k _ => pick k]
      have hlt := leastT_range hne
      obtain ⟨a, ha⟩ : ∃ a : Nat, (a : Int) = leastT w := ⟨(leastT w).toNat, by omega⟩
      have e : ∀ k : Nat, (if turnOf (leastR w) k = w then (1 : Int) else 0) = (fun k : Nat => if turnOf w k = w then (1 : Int) else 0) (k + a) := fun k => by
        show _ = if turnOf w ((k + a : Nat) : Int) = w then (1 : Int) else 0
        rw [← leastT_turn hne, turnOf_turnOf, ← ha, show (a : Int) + (k : Int) = ((k + a : Nat) : Int) by omega]
      rw [sm_congr fun k _ => e k, sum_shift (fun k : Nat => if turnOf w k = w then (1 : Int) else 0) (fun i => by
        have : turnOf w ((i + n : Nat) : Int) = turnOf w i := turnOf_congr (by rw [hwd.len, Int.natCast_add, Int.add_emod_right])
        show (if turnOf w ((i + n : Nat) : Int) = w then (1 : Int) else 0) = _
        rw [this])]
      apply sm_congr
      intro k _
      simp
  rw [s2]
  -- exchange
  have s3 : ((wordsL c n).map fun w => ((rngN n).map fun k : Nat => (((necks c n).filter P).map fun x => if leastR w = x then (if turnOf x k = w then (1 : Int) else 0) else 0).sum).sum).sum = ((rngN n).map fun k : Nat => (((necks c n).filter P).map fun x => ((wordsL c n).map fun w => if leastR w = x then (if turnOf x k = w then (1 : Int) else 0) else 0).sum).sum).sum := by
    rw [sm_swap (fun w (k : Nat) => (((necks c n).filter P).map fun x => if leastR w = x then (if turnOf x k = w then (1 : Int) else 0) else 0).sum)]
    apply sm_congr
    intro k _
    rw [sm_swap (fun w x => if leastR w = x then (if turnOf x k = w then (1 : Int) else 0) else 0)]
  rw [s3]
  have one : ∀ k : Nat, ∀ x ∈ (necks c n).filter P, ((wordsL c n).map fun w => if leastR w = x then (if turnOf x k = w then (1 : Int) else 0) else 0).sum = 1 := fun k x hx => by
    have hxn := (mem_necks h1).mp (List.mem_filter.mp hx).1
    have hxne : x ≠ [] := fun e => by have := hxn.1.len; rw [e] at this; simp at this; omega
    have hxl : x = leastR x := (nec_iff hxn.1.len h1).mpr hxn.2
    have e : ∀ w, (if leastR w = x then (if turnOf x k = w then (1 : Int) else 0) else 0) = if turnOf x k = w then (1 : Int) else 0 := fun w => by
      by_cases h : turnOf x k = w
      · rw [if_pos h, if_pos (by rw [← h, leastR_turn hxne, ← hxl])]
      · rw [if_neg h]; split <;> rfl
    rw [sm_congr fun w _ => e w]
    exact sm_pick (fun _ => (1 : Int)) (words_nodup c n) (mem_words.mpr hxn.1.turn)
  have s4 : ∀ k : Nat, (((necks c n).filter P).map fun x => ((wordsL c n).map fun w => if leastR w = x then (if turnOf x k = w then (1 : Int) else 0) else 0).sum).sum = (((necks c n).filter P).length : Nat) := fun k => by
    rw [sm_congr (g := fun _ => (1 : Int)) fun x hx => one k x hx, sm_const, Int.mul_one]
  rw [sm_congr fun k _ => s4 k, sm_const, rngN_len]
/-! ### rows that come again after d beads -/
def pw (q : Nat) (u : List Int) : List Int := (List.replicate q u).flatten
theorem pw_len (q : Nat) (u : List Int) : (pw q u).length = q * u.length := by unfold pw; simp
theorem g_pw {q i : Nat} {u : List Int} (hu : u ≠ []) (hi : i < q * u.length) : g (pw q u) i = g u (i % u.length) := rep_get u hu q i hi
theorem pw_wd {c : Int} {d q : Nat} {u : List Int} (h : Wd c d u) : Wd c (q * d) (pw q u) := wd_of (by rw [pw_len, h.len]) fun x hx => by
  unfold pw at hx
  obtain ⟨l, h1, h2⟩ := List.mem_flatten.mp hx
  rw [List.mem_replicate] at h1
  rw [h1.2] at h2
  exact h.mem x h2
theorem fixed_len {c n d : Nat} (h1 : 1 ≤ n) (hd : d ∈ divsN n) (P : List Int → Bool) : ((wordsL c n).filter fun w => P w && decide (turnOf w d = w)).length = ((wordsL c d).filter fun u => P (pw (n / d) u)).length := by
  have hd2 := mem_divsN.mp hd
  have hq : n / d * d = n := Nat.div_mul_cancel (Nat.dvd_of_mod_eq_zero hd2.2)
  have hqp : 1 ≤ n / d := Nat.div_pos hd2.1.2 (by omega)
  generalize n / d = q at hq hqp
  have ne : ∀ u ∈ wordsL c d, u ≠ [] := fun u hu e => by have := (mem_words.mp hu).len; rw [e] at this; simp at this; omega
  have tk : ∀ u ∈ wordsL c d, (pw q u).take d = u := fun u hu => by
    have hul := (mem_words.mp hu).len
    refine g_ext (by rw [List.length_take, pw_len, hul]; have : d ≤ q * d := Nat.le_mul_of_pos_left d (by omega); omega) fun i hi => ?_
    rw [List.length_take] at hi
    rw [g_take (by omega), g_pw (ne u hu) (by rw [hul, hq]; omega), hul, Nat.mod_eq_of_lt (by omega)]
  have e : ((wordsL c d).filter fun u => P (pw q u)).length = (((wordsL c d).filter fun u => P (pw q u)).map (pw q)).length := by rw [List.length_map]
  rw [e]
  refine len_eq ((words_nodup c n).filter _) ?_ fun w => ?_
  · refine List.pairwise_map.mpr ?_
    refine List.Pairwise.imp_of_mem (fun {u v} hu hv hne z => hne ?_) ((words_nodup c d).filter _)
    rw [← tk u (List.mem_filter.mp hu).1, ← tk v (List.mem_filter.mp hv).1, z]
  · rw [List.mem_filter, List.mem_map]
    constructor
    · rintro ⟨hw, hp⟩
      obtain ⟨hp1, hp2⟩ := Bool.and_eq_true_iff.mp hp
      have hp2 := of_decide_eq_true hp2
      have hwd := mem_words.mp hw
      have per : ∀ i, i + d < n → g w (i + d) = g w i := fun i hi => by
        have : g (turnOf w d) i = g w i := congrArg (fun z => g z i) hp2
        rw [g_turn (by rw [hwd.len]; omega), hwd.len, Nat.mod_eq_of_lt hi] at this
        exact this
      have md : ∀ i, i < n → g w i = g w (i % d) := by
        intro i
        induction i using Nat.strongRecOn with
        | _ i ih =>
          intro hi
          by_cases h : i < d
          · rw [Nat.mod_eq_of_lt h]
          · have := per (i - d) (by omega)
            rw [show i - d + d = i by omega] at this
            rw [this, ih (i - d) (by omega) (by omega), ← Nat.mod_eq_sub_mod (by omega)]
      have hu : Wd c d (w.take d) := wd_of (by rw [List.length_take, hwd.len]; omega) fun x hx => hwd.mem x (List.mem_of_mem_take hx)
      have hune : w.take d ≠ [] := fun z => by have := hu.len; rw [z] at this; simp at this; omega
      have ew : pw q (w.take d) = w := g_ext (by rw [pw_len, hu.len, hq, hwd.len]) fun i hi => by
        rw [pw_len, hu.len, hq] at hi
        rw [g_pw hune (by rw [hu.len, hq]; exact hi), hu.len, g_take (Nat.mod_lt _ (by omega)), md i hi]
      exact ⟨w.take d, List.mem_filter.mpr ⟨mem_words.mpr hu, by rw [ew]; exact hp1⟩, ew⟩
    · rintro ⟨u, hu, rfl⟩
      obtain ⟨hu1, hu2⟩ := List.mem_filter.mp hu
      have hud := mem_words.mp hu1
      have hwd := pw_wd (q := q) hud
      rw [hq] at hwd
      refine ⟨mem_words.mpr hwd, Bool.and_eq_true_iff.mpr ⟨hu2, decide_eq_true ?_⟩⟩
      refine g_ext (by rw [turnOf_len]) fun i hi => ?_
      rw [turnOf_len, hwd.len] at hi
      have hune := ne u hu1
      rw [g_turn (by rw [hwd.len]; exact hi), hwd.len, g_pw hune (by rw [hud.len, hq]; exact Nat.mod_lt _ (by omega)), g_pw hune (by rw [hud.len, hq]; exact hi), hud.len, Nat.mod_mod_of_dvd _ (Nat.dvd_of_mod_eq_zero hd2.2), Nat.add_mod_right]
/-- how many least rows there are -/
theorem necks_len {c n : Nat} (h1 : 1 ≤ n) (h2 : n ≤ 200) : (((necks c n).length : Nat) : Int) = ringsN c n := by
  have b := burnside (c := c) h1 h2 (fun _ => true) (fun _ _ _ => rfl)
  have e : ((divsN n).map fun d => (phiN (n / d) : Int) * ((((wordsL c n).filter fun w => true && decide (turnOf w d = w)).length : Nat) : Int)).sum = sumS c n := by
    apply sm_congr
    intro d hd
    rw [fixed_len h1 hd (fun _ => true), filter_true, words_len, Int.natCast_pow]
  rw [e, filter_true] at b
  unfold ringsN
  rw [← b, Int.mul_ediv_cancel_left _ (by omega)]
end NK
set_option Elab.async false
set_option linter.all false
set_option maxRecDepth 100000
set_option maxHeartbeats 1000000
namespace NK
open Ab RM
/-! ### rows read against a least row: so many beads alike; a greater one begins anew; a less one ends it -/
def step (r : Nat → Int) (n s : Nat) (x : Int) : Option Nat := if s < n then (if x = r s then some (s + 1) else if r s < x then some 0 else none) else none
def run (r : Nat → Int) (n : Nat) : Nat → List Int → Option Nat
  | s, [] => some s
  | s, x :: w => (step r n s x).bind fun s' => run r n s' w
def fr (r : Nat → Int) : Nat → List Int → Nat
  | _, [] => 0
  | s, x :: w => if x = r s then 1 + fr r (s + 1) w else 1
section
variable {r : Nat → Int} {n : Nat}
theorem run_app : ∀ (s : Nat) (u v : List Int), run r n s (u ++ v) = (run r n s u).bind fun s' => run r n s' v
  | s, [], v => rfl
  | s, x :: u, v => by
    show (step r n s x).bind _ = ((step r n s x).bind _).bind _
    cases step r n s x with
    | none => rfl
    | some s' => exact run_app s' u v
theorem step_cases {s s' : Nat} {x : Int} (h : step r n s x = some s') : s < n ∧ ((x = r s ∧ s' = s + 1) ∨ (r s < x ∧ s' = 0)) := by
  unfold step at h
  split at h
  · rename_i hs
    split at h
    · rename_i e; exact ⟨hs, .inl ⟨e, (Option.some.inj h).symm⟩⟩
    · split at h
      · rename_i e; exact ⟨hs, .inr ⟨e, (Option.some.inj h).symm⟩⟩
      · cases h
  · cases h
theorem step_same {s : Nat} {x : Int} (h : s < n) (e : x = r s) : step r n s x = some (s + 1) := by unfold step; rw [if_pos h, if_pos e]
theorem step_up {s : Nat} {x : Int} (h : s < n) (e : r s < x) : step r n s x = some 0 := by unfold step; rw [if_pos h, if_neg (by omega), if_pos e]
def Bord (r : Nat → Int) (s t : Nat) : Prop := t ≤ s ∧ ∀ i, i < t → r (s - t + i) = r i
theorem bord_le (hp : PN n r) {s t : Nat} (hs : s < n) (b : Bord r s t) : r t ≤ r s := by
  rcases Int.lt_or_le (r s) (r t) with h | h
  · exfalso
    have hts := b.1
    refine hp (s - t) (by omega) ⟨t, by omega, fun i hi => ?_, ?_⟩
    · show r (i + (s - t)) = r i
      rw [Nat.add_comm]; exact b.2 i hi
    · show r (t + (s - t)) < r t
      rw [show t + (s - t) = s by omega]; exact h
  · exact h
theorem sync1 (hp : PN n r) {s s' t : Nat} {x : Int} (b : Bord r s t) (h : step r n s x = some s') : ∃ t', step r n t x = some t' ∧ Bord r s' t' := by
  obtain ⟨hs, h⟩ := step_cases h
  have hle := bord_le hp hs b
  have hts := b.1
  rcases h with ⟨rfl, rfl⟩ | ⟨h, rfl⟩
  · rcases Int.lt_or_le (r t) (r s) with q | q
    · exact ⟨0, step_up (by omega) q, by omega, fun i hi => by omega⟩
    · refine ⟨t + 1, step_same (by omega) (by omega), by omega, fun i hi => ?_⟩
      rw [show s + 1 - (t + 1) = s - t by omega]
      by_cases hi2 : i < t
      · exact b.2 i hi2
      · have : i = t := by omega
        subst this
        rw [show s - i + i = s by omega]; omega
  · exact ⟨0, step_up (by omega) (by omega), Nat.le_refl _, fun i hi => by omega⟩
theorem sync (hp : PN n r) : ∀ (w : List Int) {s s' t : Nat}, Bord r s t → run r n s w = some s' → ∃ t', run r n t w = some t' ∧ Bord r s' t'
  | [], s, s', t, b, h => by
    have : s = s' := Option.some.inj h
    subst this
    exact ⟨t, rfl, b⟩
  | x :: w, s, s', t, b, h => by
    have h' : (step r n s x).bind (fun s' => run r n s' w) = some s' := h
    cases hq : step r n s x with
    | none => rw [hq] at h'; cases h'
    | some s1 =>
      rw [hq] at h'
      obtain ⟨t1, e1, b1⟩ := sync1 hp b hq
      obtain ⟨t2, e2, b2⟩ := sync hp w b1 h'
      exact ⟨t2, by show (step r n t x).bind _ = _; rw [e1]; exact e2, b2⟩
theorem bord_zero (s : Nat) : Bord r s 0 := ⟨Nat.zero_le _, fun i hi => by omega⟩
theorem sync0 (hp : PN n r) {w : List Int} {s : Nat} (h : run r n s w = some 0) : run r n 0 w = some 0 := by
  obtain ⟨t, e, b⟩ := sync hp w (bord_zero s) h
  have : t = 0 := by have := b.1; omega
  rw [this] at e; exact e
theorem run_cons {s e : Nat} {x : Int} {w : List Int} (h : run r n s (x :: w) = some e) : ∃ s', step r n s x = some s' ∧ run r n s' w = some e := by
  have h' : (step r n s x).bind (fun s' => run r n s' w) = some e := h
  cases hq : step r n s x with
  | none => rw [hq] at h'; cases h'
  | some s1 => rw [hq] at h'; exact ⟨s1, rfl, h'⟩
theorem fr_take : ∀ (w : List Int) {s e t : Nat}, run r n s w = some e → t < fr r s w → run r n s (w.take t) = some (s + t)
  | [], s, e, t, _, h => by simp [fr] at h
  | x :: w, s, e, 0, _, _ => rfl
  | x :: w, s, e, t + 1, h, ht => by
    obtain ⟨s', h1, h2⟩ := run_cons h
    unfold fr at ht
    split at ht
    · rename_i ex
      obtain ⟨hs, _⟩ := step_cases h1
      rw [step_same hs ex] at h1
      have := Option.some.inj h1
      subst this
      have ih := fr_take w h2 (t := t) (by omega)
      show (step r n s x).bind _ = _
      rw [step_same hs ex]
      show run r n (s + 1) (w.take t) = _
      rw [ih]; congr 1; omega
    · omega
theorem fr_le : ∀ (s : Nat) (w : List Int), fr r s w ≤ w.length
  | s, [] => Nat.le_refl _
  | s, x :: w => by
    unfold fr
    rw [List.length_cons]
    have := fr_le (s + 1) w
    split <;> omega
theorem fr_pos {s : Nat} {w : List Int} (h : w ≠ []) : 1 ≤ fr r s w := by
  cases w with
  | nil => exact absurd rfl h
  | cons x w => unfold fr; split <;> omega
theorem reset : ∀ (w : List Int) {s : Nat}, run r n s w = some 0 → w ≠ [] → ∃ k, k < w.length ∧ s + k < n ∧ (∀ i, i < k → g w i = r (s + i)) ∧ r (s + k) < g w k
  | [], _, _, h => absurd rfl h
  | x :: w, s, h, _ => by
    obtain ⟨s', h1, h2⟩ := run_cons h
    obtain ⟨hs, q⟩ := step_cases h1
    rcases q with ⟨ex, rfl⟩ | ⟨ex, rfl⟩
    · have hw : w ≠ [] := fun e => by subst e; have := Option.some.inj h2; omega
      obtain ⟨k, k1, k2, k3, k4⟩ := reset w h2 hw
      refine ⟨k + 1, by rw [List.length_cons]; omega, by omega, fun i hi => ?_, ?_⟩
      · cases i with
        | zero => rw [g_cons_zero]; exact ex
        | succ i => rw [g_cons_succ, k3 i (by omega)]; congr 1; omega
      · rw [g_cons_succ, show s + (k + 1) = s + 1 + k by omega]; exact k4
    · exact ⟨0, by rw [List.length_cons]; omega, by omega, fun i hi => by omega, by rw [g_cons_zero]; exact ex⟩
end
theorem turn_nat {v : List Int} {t : Nat} (h : t < v.length) : turnOf v t = v.drop t ++ v.take t := by
  unfold turnOf
  rw [Int.emod_eq_of_lt (by omega) (by omega), Int.toNat_natCast]
/-! ### rows all whose turnings, again and again, are greater -/
section
variable {r : Nat → Int} {n d : Nat}
def UpA (r : Nat → Int) (n d : Nat) (u : List Int) : Prop := ∀ j : Nat, LT n r (fun i => g u ((i + j) % d))
theorem UpA.turn {u : List Int} (hl : u.length = d) (hd : 1 ≤ d) (o : Nat) : UpA r n d (turnOf u o) ↔ UpA r n d u := by
  have e : ∀ i, i < d → g (turnOf u o) i = g u ((i + o) % d) := fun i hi => by rw [g_turn (by omega), hl]
  constructor
  · intro h j
    have k := h (j + (d - o % d))
    refine k.congr (fun _ _ => rfl) fun i _ => ?_
    show g u ((i + j) % d) = g (turnOf u o) ((i + (j + (d - o % d))) % d)
    rw [e _ (Nat.mod_lt _ (by omega))]
    congr 1
    rw [Nat.mod_add_mod]
    have ho := Nat.mod_lt o (show 0 < d by omega)
    have hdm := Nat.div_add_mod o d
    rw [show i + (j + (d - o % d)) + o = (i + j) + d * (o / d + 1) by rw [Nat.mul_add]; omega, Nat.add_mul_mod_self_left]
  · intro h j
    refine (h (j + o)).congr (fun _ _ => rfl) fun i _ => ?_
    show g (turnOf u o) ((i + j) % d) = g u ((i + (j + o)) % d)
    rw [e _ (Nat.mod_lt _ (by omega)), Nat.mod_add_mod, Nat.add_assoc]
theorem upA_dec (hp : PN n r) {v : List Int} (hl : v.length = d) (hd : 1 ≤ d) (h : run r n 0 v = some 0) : UpA r n d v := fun j => by
  have ht := Nat.mod_lt j (show 0 < d by omega)
  have ej : ∀ i, (i + j) % d = (i + j % d) % d := fun i => (Nat.add_mod_mod i j d).symm
  generalize j % d = t at ht ej
  have es : v = v.take t ++ v.drop t := (List.take_append_drop t v).symm
  have h2 := h
  rw [es, run_app] at h2
  cases hq : run r n 0 (v.take t) with
  | none => rw [hq] at h2; cases h2
  | some s =>
    rw [hq] at h2
    have h3 := sync0 hp (show run r n s (v.drop t) = some 0 from h2)
    have hne : v.drop t ≠ [] := fun z => by
      have := congrArg List.length z
      rw [List.length_drop, List.length_nil] at this
      omega
    obtain ⟨k, k1, k2, k3, k4⟩ := reset (v.drop t) h3 hne
    rw [List.length_drop] at k1
    refine ⟨k, by omega, fun i hi => ?_, ?_⟩
    · show r i = g v ((i + j) % d)
      rw [ej, Nat.mod_eq_of_lt (by omega)]
      have := k3 i hi
      rw [g_drop, Nat.zero_add] at this
      rw [Nat.add_comm i t]; exact this.symm
    · show r k < g v ((k + j) % d)
      rw [ej, Nat.mod_eq_of_lt (by omega)]
      rw [g_drop, Nat.zero_add] at k4
      rw [Nat.add_comm k t]; exact k4
theorem dec_upA (hp : PN n r) {v : List Int} (hl : v.length = d) (hd : 1 ≤ d) (hv : Nec d (g v)) (h : UpA r n d v) : run r n 0 v = some 0 := by
  have key : ∀ k, k ≤ d → ∃ s, s ≤ k ∧ run r n 0 (v.take k) = some s ∧ ∀ i, i < s → g v (k - s + i) = r i := by
    intro k
    induction k with
    | zero => intro _; exact ⟨0, Nat.le_refl _, rfl, fun i hi => by omega⟩
    | succ k ih =>
      intro hk
      obtain ⟨s, s1, s2, s3⟩ := ih (by omega)
      obtain ⟨p, p1, p2, p3⟩ := h (k - s)
      have p2' : ∀ i, i < p → r i = g v ((i + (k - s)) % d) := p2
      have p3' : r p < g v ((p + (k - s)) % d) := p3
      have ps : s ≤ p := by
        rcases Nat.lt_or_ge p s with q | q
        · exfalso
          have := s3 p q
          rw [Nat.mod_eq_of_lt (by omega), Nat.add_comm p, this] at p3'
          omega
        · exact q
      have et : v.take (k + 1) = v.take k ++ [g v k] := by
        rw [List.take_succ]
        congr 1
        unfold g
        rw [List.getElem?_eq_getElem (show k < v.length by omega)]; rfl
      by_cases e : p = s
      · subst e
        rw [Nat.mod_eq_of_lt (by omega), show p + (k - p) = k by omega] at p3'
        refine ⟨0, by omega, ?_, fun i hi => by omega⟩
        rw [et, run_app, s2]
        show (step r n p (g v k)).bind _ = _
        rw [step_up (by omega) p3']; rfl
      · have := p2' s (by omega)
        rw [Nat.mod_eq_of_lt (by omega), show s + (k - s) = k by omega] at this
        refine ⟨s + 1, by omega, ?_, fun i hi => ?_⟩
        · rw [et, run_app, s2]
          show (step r n s (g v k)).bind _ = _
          rw [step_same (by omega) this.symm]; rfl
        · rw [show k + 1 - (s + 1) = k - s by omega]
          by_cases hi2 : i < s
          · exact s3 i hi2
          · have ei : i = s := by omega
            rw [ei, show k - s + s = k by omega]; exact this.symm
  obtain ⟨s, s1, s2, s3⟩ := key d (Nat.le_refl _)
  rw [List.take_of_length_le (by omega)] at s2
  by_cases hs : s = 0
  · rw [hs] at s2; exact s2
  · exfalso
    obtain ⟨k, k1, k2, k3⟩ := h 0
    obtain ⟨p, p1, p2, p3⟩ := h (d - s)
    have k2' : ∀ i, i < k → r i = g v (i % d) := k2
    have k3' : r k < g v (k % d) := k3
    have p2' : ∀ i, i < p → r i = g v ((i + (d - s)) % d) := p2
    have p3' : r p < g v ((p + (d - s)) % d) := p3
    have ps : s ≤ p := by
      rcases Nat.lt_or_ge p s with q | q
      · exfalso
        have := s3 p q
        rw [Nat.mod_eq_of_lt (by omega), Nat.add_comm p, this] at p3'
        omega
      · exact q
    have wrap : ∀ i, s ≤ i → (i + (d - s)) % d = (i - s) % d := fun i hi => by rw [show i + (d - s) = (i - s) + d by omega, Nat.add_mod_right]
    have kp : k ≤ p - s := by
      rcases Nat.lt_or_ge (p - s) k with q | q
      · exfalso
        refine hp s (by omega) ⟨p - s, by omega, fun i hi => ?_, ?_⟩
        · show r (i + s) = r i
          rw [p2' (i + s) (by omega), wrap _ (by omega), show i + s - s = i by omega, k2' i (by omega)]
        · show r (p - s + s) < r (p - s)
          rw [show p - s + s = p by omega, k2' (p - s) q]
          rw [wrap p ps] at p3'
          exact p3'
      · exact q
    have low : ∀ i, i < k → g v ((i + (d - s)) % d) = g v (i % d) := fun i hi => by rw [← p2' i (by omega), k2' i hi]
    have atk : g v ((k + (d - s)) % d) < g v (k % d) := by rw [← p2' k (by omega)]; exact k3'
    by_cases kd : k < d
    · refine hv (d - s) (by omega) ⟨k, kd, fun i hi => ?_, ?_⟩
      · show g v ((i + (d - s)) % d) = g v i
        rw [low i hi, Nat.mod_eq_of_lt (by omega)]
      · show g v ((k + (d - s)) % d) < g v k
        rw [Nat.mod_eq_of_lt kd] at atk; exact atk
    · have := low (k % d) (by have := Nat.mod_lt k (show 0 < d by omega); omega)
      rw [Nat.mod_add_mod, Nat.mod_mod] at this
      omega
end
/-! ### how many of them -/
section
variable {r : Nat → Int} {n c : Nat}
def cN (r : Nat → Int) (n c s m : Nat) : Int := ((((wordsL c m).filter fun w => decide (run r n s w = some 0)).length : Nat) : Int)
def cS (r : Nat → Int) (n c s m : Nat) : Int := (((wordsL c m).filter fun w => decide (run r n s w = some 0)).map fun w => ((s + fr r s w : Nat) : Int)).sum
theorem sm_flat {α β : Type} (f : β → Int) (k : α → List β) : ∀ l : List α, ((l.flatMap k).map f).sum = (l.map fun x => ((k x).map f).sum).sum
  | [] => rfl
  | x :: l => by rw [List.flatMap_cons, sm_app, List.map_cons, List.sum_cons, sm_flat f k l]
/-- sums over all rows one longer -/
theorem sm_words (f : List Int → Int) (m : Nat) : ((wordsL c (m + 1)).map f).sum = ((List.range c).map fun x : Nat => ((wordsL c m).map fun w => f ((x : Int) :: w)).sum).sum := by
  show (((List.range c).flatMap fun x : Nat => (wordsL c m).map fun w => (x : Int) :: w).map f).sum = _
  rw [sm_flat]
  apply sm_congr
  intro x _
  rw [List.map_map]; rfl
theorem cN_sum (s m : Nat) : cN r n c s m = ((wordsL c m).map fun w => if run r n s w = some 0 then (1 : Int) else 0).sum := by
  unfold cN
  rw [len_sum]
  apply sm_congr
  intro w _
  simp only [decide_eq_true_iff]
theorem cS_sum (s m : Nat) : cS r n c s m = ((wordsL c m).map fun w => if run r n s w = some 0 then ((s + fr r s w : Nat) : Int) else 0).sum := by
  unfold cS
  rw [sm_filter]
  apply sm_congr
  intro w _
  simp only [decide_eq_true_iff]
/-- three sorts of first beads -/
theorem sum_three {a : Int} (ha : 0 ≤ a) (hc : a < c) (x y : Int) : ((List.range c).map fun i : Nat => if (i : Int) = a then x else if a < (i : Int) then y else 0).sum = x + ((c : Int) - 1 - a) * y := by
  obtain ⟨k, rfl⟩ := Int.eq_ofNat_of_zero_le ha
  have key : ∀ m : Nat, ((List.range m).map fun i : Nat => if (i : Int) = (k : Int) then x else if (k : Int) < (i : Int) then y else 0).sum = if m ≤ k then 0 else x + ((m : Int) - 1 - k) * y := by
    intro m
    induction m with
    | zero => simp
    | succ m ih =>
      rw [List.range_succ, sm_app, ih]
      simp only [List.map_cons, List.map_nil, List.sum_cons, List.sum_nil, Int.add_zero]
      rcases Nat.lt_trichotomy m k with h | h | h
      · rw [if_pos (show m ≤ k by omega), if_neg (show ¬ (m : Int) = k by omega), if_neg (show ¬ (k : Int) < m by omega), if_pos (show m + 1 ≤ k by omega)]; rfl
      · subst h
        rw [if_pos (Nat.le_refl m), if_pos rfl, if_neg (show ¬ m + 1 ≤ m by omega)]
        have : ((m + 1 : Nat) : Int) - 1 - m = 0 := by omega
        rw [this, Int.zero_mul]; omega
      · rw [if_neg (show ¬ m ≤ k by omega), if_neg (show ¬ (m : Int) = k by omega), if_pos (show (k : Int) < m by omega), if_neg (show ¬ m + 1 ≤ k by omega)]
        have : ((m + 1 : Nat) : Int) - 1 - k = ((m : Int) - 1 - k) + 1 := by omega
        rw [this, Int.add_mul, Int.one_mul]; omega
  rw [key c, if_neg (by have h : (k : Int) < c := hc; omega)]
theorem run_first {s : Nat} (hs : s < n) (x : Int) (w : List Int) : run r n s (x :: w) = some 0 ↔ (x = r s ∧ run r n (s + 1) w = some 0) ∨ (r s < x ∧ run r n 0 w = some 0) := by
  constructor
  · intro h
    obtain ⟨s', h1, h2⟩ := run_cons h
    rcases (step_cases h1).2 with ⟨e, rfl⟩ | ⟨e, rfl⟩
    · exact .inl ⟨e, h2⟩
    · exact .inr ⟨e, h2⟩
  · rintro (⟨e, h⟩ | ⟨e, h⟩)
    · show (step r n s x).bind _ = _; rw [step_same hs e]; exact h
    · show (step r n s x).bind _ = _; rw [step_up hs e]; exact h
theorem cN_succ {s m : Nat} (hs : s < n) (h0 : 0 ≤ r s) (hc : r s < c) : cN r n c s (m + 1) = cN r n c (s + 1) m + ((c : Int) - 1 - r s) * cN r n c 0 m := by
  rw [cN_sum, sm_words, ← sum_three h0 hc]
  apply sm_congr
  intro x _
  by_cases e : (x : Int) = r s
  · rw [if_pos e, cN_sum]
    apply sm_congr
    intro w _
    have := run_first (r := r) hs (x : Int) w
    by_cases q : run r n (s + 1) w = some 0
    · rw [if_pos q, if_pos (this.mpr (.inl ⟨e, q⟩))]
    · rw [if_neg q, if_neg fun z => ?_]
      rcases this.mp z with z | z
      · exact q z.2
      · omega
  · rw [if_neg e]
    by_cases e2 : r s < (x : Int)
    · rw [if_pos e2, cN_sum]
      apply sm_congr
      intro w _
      have := run_first (r := r) hs (x : Int) w
      by_cases q : run r n 0 w = some 0
      · rw [if_pos q, if_pos (this.mpr (.inr ⟨e2, q⟩))]
      · rw [if_neg q, if_neg fun z => ?_]
        rcases this.mp z with z | z
        · exact e z.1
        · exact q z.2
    · rw [if_neg e2, sm_congr (g := fun _ => 0) fun w _ => if_neg fun z => ?_]
      · exact sm_zero _
      · rcases (run_first hs (x : Int) w).mp z with z | z
        · exact e z.1
        · exact e2 z.1
theorem cS_succ {s m : Nat} (hs : s < n) (h0 : 0 ≤ r s) (hc : r s < c) : cS r n c s (m + 1) = cS r n c (s + 1) m + ((c : Int) - 1 - r s) * (((s + 1 : Nat) : Int) * cN r n c 0 m) := by
  rw [cS_sum, sm_words, ← sum_three h0 hc]
  apply sm_congr
  intro x _
  by_cases e : (x : Int) = r s
  · rw [if_pos e, cS_sum]
    apply sm_congr
    intro w _
    have := run_first (r := r) hs (x : Int) w
    by_cases q : run r n (s + 1) w = some 0
    · rw [if_pos q, if_pos (this.mpr (.inl ⟨e, q⟩))]
      have : fr r s ((x : Int) :: w) = 1 + fr r (s + 1) w := by show (if _ then _ else _) = _; rw [if_pos e]
      rw [this]; congr 1; omega
    · rw [if_neg q, if_neg fun z => ?_]
      rcases this.mp z with z | z
      · exact q z.2
      · omega
  · rw [if_neg e]
    by_cases e2 : r s < (x : Int)
    · rw [if_pos e2, cN_sum, ← sm_mul]
      apply sm_congr
      intro w _
      have := run_first (r := r) hs (x : Int) w
      by_cases q : run r n 0 w = some 0
      · rw [if_pos q, if_pos (this.mpr (.inr ⟨e2, q⟩)), Int.mul_one]
        have : fr r s ((x : Int) :: w) = 1 := by show (if _ then _ else _) = _; rw [if_neg e]
        rw [this]
      · rw [if_neg q, Int.mul_zero, if_neg fun z => ?_]
        rcases this.mp z with z | z
        · exact e z.1
        · exact q z.2
    · rw [if_neg e2, sm_congr (g := fun _ => 0) fun w _ => if_neg fun z => ?_]
      · exact sm_zero _
      · rcases (run_first hs (x : Int) w).mp z with z | z
        · exact e z.1
        · exact e2 z.1
theorem cN_zero (s : Nat) : cN r n c s 0 = if s = 0 then 1 else 0 := by
  rw [cN_sum]
  show (if run r n s [] = some 0 then (1 : Int) else 0) + 0 = _
  rw [Int.add_zero]
  by_cases h : s = 0
  · rw [if_pos h, if_pos (by rw [h]; rfl)]
  · rw [if_neg h, if_neg (show ¬ run r n s [] = some 0 from fun z => h (Option.some.inj z))]
theorem cS_zero (s : Nat) : cS r n c s 0 = 0 := by
  rw [cS_sum]
  show (if run r n s [] = some 0 then ((s + fr r s [] : Nat) : Int) else 0) + 0 = _
  rw [Int.add_zero]
  by_cases h : s = 0
  · subst h; rw [if_pos (show run r n 0 [] = some 0 from rfl)]; rfl
  · rw [if_neg (show ¬ run r n s [] = some 0 from fun z => h (Option.some.inj z))]
theorem range_succ_front (f : Nat → Int) (m : Nat) : ((List.range (m + 1)).map f).sum = f 0 + ((List.range m).map fun p => f (p + 1)).sum := by
  rw [List.range_succ_eq_map, List.map_cons, List.sum_cons, List.map_map]; rfl
theorem cN_all (hr : ∀ i, i < n → 0 ≤ r i ∧ r i < c) : ∀ (m s : Nat), s + m ≤ n → cN r n c s m = ((List.range m).map fun p => ((c : Int) - 1 - r (s + p)) * cN r n c 0 (m - p - 1)).sum + cN r n c (s + m) 0
  | 0, s, _ => by simp
  | m + 1, s, h => by
    have hs := hr s (by omega)
    rw [cN_succ (by omega) hs.1 hs.2, cN_all hr m (s + 1) (by omega), range_succ_front]
    have e : ((List.range m).map fun p => ((c : Int) - 1 - r (s + 1 + p)) * cN r n c 0 (m - p - 1)).sum = ((List.range m).map fun p => ((c : Int) - 1 - r (s + (p + 1))) * cN r n c 0 (m + 1 - (p + 1) - 1)).sum := by
      apply sm_congr
      intro p _
      rw [show s + 1 + p = s + (p + 1) by omega, show m - p - 1 = m + 1 - (p + 1) - 1 by omega]
    rw [e, show s + 1 + m = s + (m + 1) by omega, show m + 1 - 0 - 1 = m by omega, Nat.add_zero]
    generalize ((c : Int) - 1 - r s) * cN r n c 0 m = A
    omega
theorem cS_all (hr : ∀ i, i < n → 0 ≤ r i ∧ r i < c) : ∀ (m s : Nat), s + m ≤ n → cS r n c s m = ((List.range m).map fun p => ((c : Int) - 1 - r (s + p)) * (((s + p + 1 : Nat) : Int) * cN r n c 0 (m - p - 1))).sum
  | 0, s, _ => by simp [cS_zero]
  | m + 1, s, h => by
    have hs := hr s (by omega)
    rw [cS_succ (by omega) hs.1 hs.2, cS_all hr m (s + 1) (by omega), range_succ_front]
    have e : ((List.range m).map fun p => ((c : Int) - 1 - r (s + 1 + p)) * (((s + 1 + p + 1 : Nat) : Int) * cN r n c 0 (m - p - 1))).sum = ((List.range m).map fun p => ((c : Int) - 1 - r (s + (p + 1))) * (((s + (p + 1) + 1 : Nat) : Int) * cN r n c 0 (m + 1 - (p + 1) - 1))).sum := by
      apply sm_congr
      intro p _
      rw [show s + 1 + p = s + (p + 1) by omega, show m - p - 1 = m + 1 - (p + 1) - 1 by omega]
    rw [e, show m + 1 - 0 - 1 = m by omega, Nat.add_zero]
    generalize ((c : Int) - 1 - r s) * (((s + 1 : Nat) : Int) * cN r n c 0 m) = A
    omega
/-- the rows, each turned within its first part -/
def tur (r : Nat → Int) (n c d : Nat) : List (List Int) := ((wordsL c d).filter fun v => decide (run r n 0 v = some 0)).flatMap fun v => (List.range (fr r 0 v)).map fun o : Nat => turnOf v o
theorem tur_inj (hp : PN n r) {d : Nat} {v v' : List Int} {o o' : Nat} (hl : v.length = d) (hl' : v'.length = d) (h : run r n 0 v = some 0) (h' : run r n 0 v' = some 0) (ho : o < fr r 0 v) (ho' : o' ≤ o) (e : turnOf v o = turnOf v' o') : o = o' ∧ v = v' := by
  have ev : v' = turnOf v ((o - o' : Nat) : Int) := by
    have := congrArg (fun z => turnOf z (-(o' : Int))) e
    simp only [turnOf_turnOf] at this
    rw [show (o' : Int) + -(o' : Int) = 0 by omega, turnOf_zero] at this
    rw [← this]
    congr 1
    omega
  by_cases ht : o - o' = 0
  · rw [ht] at ev
    have : v' = v := by rw [ev]; exact turnOf_zero v
    exact ⟨by omega, this.symm⟩
  · exfalso
    have hfl := fr_le (r := r) 0 v
    have hto : o - o' ≤ o := Nat.sub_le _ _
    generalize o - o' = t at ht ev hto
    have htf : t < fr r 0 v := by omega
    rw [turn_nat (by omega)] at ev
    have h1 := fr_take v h htf
    rw [Nat.zero_add] at h1
    have h2 := h
    rw [← List.take_append_drop t v, run_app, h1] at h2
    have h3 := sync0 hp (show run r n t (v.drop t) = some 0 from h2)
    rw [ev, run_app, h3] at h'
    have h4 : run r n 0 (v.take t) = some 0 := h'
    rw [h1] at h4
    exact ht (Option.some.inj h4)
end
end NK
set_option Elab.async false
set_option linter.all false
set_option maxRecDepth 100000
set_option maxHeartbeats 1000000
namespace NK
open Ab RM
/-! ### how many least rows are greater -/
section
variable {c n : Nat} {row : List Int}
theorem tur_nodup {r : Nat → Int} (hp : PN n r) (d : Nat) : (tur r n c d).Nodup := by
  unfold tur
  refine List.pairwise_flatMap.mpr ⟨fun v hv => ?_, ?_⟩
  · obtain ⟨v1, v2⟩ := List.mem_filter.mp hv
    have v3 := of_decide_eq_true v2
    have hl := (mem_words.mp v1).len
    refine List.pairwise_map.mpr (List.Pairwise.imp_of_mem (fun {a b} ha hb (hab : a < b) z => ?_) List.pairwise_lt_range)
    have := tur_inj hp hl hl v3 v3 (List.mem_range.mp hb) (by omega) z.symm
    omega
  · refine List.Pairwise.imp_of_mem (fun {v v'} hv hv' hne => ?_) ((words_nodup c d).filter _)
    intro x hx y hy z
    subst z
    obtain ⟨o, ho, rfl⟩ := List.mem_map.mp hx
    obtain ⟨o', ho', e⟩ := List.mem_map.mp hy
    obtain ⟨v1, v2⟩ := List.mem_filter.mp hv
    obtain ⟨w1, w2⟩ := List.mem_filter.mp hv'
    have v3 := of_decide_eq_true v2
    have w3 := of_decide_eq_true w2
    have hl := (mem_words.mp v1).len
    have hl' := (mem_words.mp w1).len
    rw [List.mem_range] at ho ho'
    rcases Nat.le_total o' o with q | q
    · exact hne (tur_inj hp hl hl' v3 w3 ho q e.symm).2
    · exact hne (tur_inj hp hl' hl w3 v3 ho' q e).2.symm
theorem tur_len {r : Nat → Int} (d : Nat) : (((tur r n c d).length : Nat) : Int) = cS r n c 0 d := by
  unfold tur cS
  generalize (wordsL c d).filter (fun v => decide (run r n 0 v = some 0)) = l
  induction l with
  | nil => rfl
  | cons v l ih =>
    rw [List.flatMap_cons, List.length_append, List.map_cons, List.sum_cons, ← ih, List.length_map, List.length_range]
    omega
/-- greater than row, whatever it is turned to -/
def gtP (row : List Int) (w : List Int) : Bool := lexlt row (leastR w)
theorem gtP_turn {w : List Int} (b : Int) (hw : w ≠ []) : gtP row (turnOf w b) = gtP row w := by unfold gtP; rw [leastR_turn hw]
theorem gtP_pw (hn : 1 ≤ n) (hl : row.length = n) {d q : Nat} (hd : 1 ≤ d) (hq : q * d = n) {u : List Int} (hu : Wd c d u) : gtP row (pw q u) = true ↔ UpA (g row) n d u := by
  have hune : u ≠ [] := fun e => by have := hu.len; rw [e] at this; simp at this; omega
  have hwd := pw_wd (q := q) hu
  rw [hq] at hwd
  have hwne : pw q u ≠ [] := fun e => by have := hwd.len; rw [e] at this; simp at this; omega
  have hdn : d ∣ n := ⟨q, by rw [← hq, Nat.mul_comm]⟩
  have gt : ∀ (j i : Nat), i < n → g (turnOf (pw q u) j) i = g u ((i + j) % d) := fun j i hi => by
    rw [g_turn (by rw [hwd.len]; exact hi), hwd.len, g_pw hune (by rw [hu.len, hq]; exact Nat.mod_lt _ (by omega)), hu.len, Nat.mod_mod_of_dvd _ hdn]
  have hll : (leastR (pw q u)).length = n := by rw [leastR_len _ hwne]; exact hwd.len
  unfold gtP
  rw [lt_iff hl hll]
  constructor
  · intro h j
    have hm : turnOf (pw q u) (j : Nat) ∈ turns (pw q u) := (turns_mem hwne).mpr ⟨j, rfl⟩
    have h2 : lexlt (turnOf (pw q u) (j : Nat)) (leastR (pw q u)) = false := minR_least hm
    rw [not_lt_iff (n := n) (by rw [turnOf_len]; exact hwd.len) hll] at h2
    exact (lt_of_lt h h2).congr (fun _ _ => rfl) fun i hi => (gt j i hi).symm
  · intro h
    have hr := leastT_range hwne
    obtain ⟨a, ha⟩ : ∃ a : Nat, (a : Int) = leastT (pw q u) := ⟨(leastT (pw q u)).toNat, by omega⟩
    rw [← leastT_turn hwne, ← ha]
    exact (h a).congr (fun _ _ => rfl) fun i hi => gt a i hi
theorem up_len (hn : 1 ≤ n) (hl : row.length = n) (hp : PN n (g row)) {d q : Nat} (hd : 1 ≤ d) (hq : q * d = n) :
    ((wordsL c d).filter fun u => gtP row (pw q u)).length = (tur (g row) n c d).length := by
  refine len_eq ((words_nodup c d).filter _) (tur_nodup hp d) fun u => ?_
  rw [List.mem_filter]
  unfold tur
  rw [List.mem_flatMap]
  constructor
  · rintro ⟨h1, h2⟩
    have hu := mem_words.mp h1
    have hune : u ≠ [] := fun e => by have := hu.len; rw [e] at this; simp at this; omega
    have hup := (gtP_pw hn hl hd hq hu).mp h2
    have hr := leastT_range hune
    have hrl := hu.len
    obtain ⟨a, ha⟩ : ∃ a : Nat, (a : Int) = leastT u := ⟨(leastT u).toNat, by omega⟩
    have hv : leastR u = turnOf u a := by rw [ha]; exact (leastT_turn hune).symm
    have hvd : Wd c d (leastR u) := by rw [hv]; exact hu.turn
    have hdec : run (g row) n 0 (leastR u) = some 0 := dec_upA hp hvd.len hd (least_nec hrl hd) (by rw [hv]; exact (UpA.turn hrl hd a).mpr hup)
    have hvne : leastR u ≠ [] := fun e => by have := hvd.len; rw [e] at this; simp at this; omega
    -- the part that holds the first bead
    have find : ∀ (v : List Int), Wd c d v → run (g row) n 0 v = some 0 → ∀ t : Nat, t < d → ∃ v' o, Wd c d v' ∧ run (g row) n 0 v' = some 0 ∧ o < fr (g row) 0 v' ∧ turnOf v t = turnOf v' (o : Nat) := by
      intro v hv1 hv2 t
      induction t using Nat.strongRecOn generalizing v with
      | _ t ih =>
        intro ht
        by_cases q : t < fr (g row) 0 v
        · exact ⟨v, t, hv1, hv2, q, rfl⟩
        · have hvne : v ≠ [] := fun e => by have := hv1.len; rw [e] at this; simp at this; omega
          have fp := fr_pos (r := g row) (s := 0) hvne
          have fl := fr_le (r := g row) 0 v
          rw [hv1.len] at fl
          -- the row behind its first part
          have hs : run (g row) n 0 (v.take (fr (g row) 0 v)) = some 0 := by
            have aux : ∀ (w : List Int) (s : Nat), run (g row) n s w = some 0 → w ≠ [] → run (g row) n s (w.take (fr (g row) s w)) = some 0 := by
              intro w
              induction w with
              | nil => intro s _ h; exact absurd rfl h
              | cons x w ihw =>
                intro s h _
                obtain ⟨s', k1, k2⟩ := run_cons h
                obtain ⟨hs, k3⟩ := step_cases k1
                unfold fr
                rcases k3 with ⟨e, rfl⟩ | ⟨e, rfl⟩
                · rw [if_pos e]
                  have hw : w ≠ [] := fun z => by subst z; have := Option.some.inj k2; omega
                  rw [Nat.add_comm 1, List.take_succ_cons]
                  show (step (g row) n s x).bind _ = _
                  rw [k1]
                  exact ihw (s + 1) k2 hw
                · rw [if_neg (by omega)]
                  show (step (g row) n s x).bind _ = _
                  rw [k1]; rfl
            exact aux v 0 hv2 hvne
          have hd2 : run (g row) n 0 (v.drop (fr (g row) 0 v)) = some 0 := by
            have := hv2
            rw [← List.take_append_drop (fr (g row) 0 v) v, run_app, hs] at this
            exact this
          generalize hk : fr (g row) 0 v = k at *
          have hkd : k < d := by omega
          have ev : turnOf v (k : Nat) = v.drop k ++ v.take k := turn_nat (by rw [hv1.len]; exact hkd)
          have r2 : run (g row) n 0 (turnOf v (k : Nat)) = some 0 := by rw [ev, run_app, hd2]; exact hs
          obtain ⟨v', o, a1, a2, a3, a4⟩ := ih (t - k) (by omega) (turnOf v (k : Nat)) hv1.turn r2 (by omega)
          refine ⟨v', o, a1, a2, a3, ?_⟩
          rw [← a4, turnOf_turnOf]
          congr 1
          omega
    have back : u = turnOf (leastR u) ((d - a : Nat) : Int) ∨ u = leastR u := by
      by_cases a0 : a = 0
      · right; rw [hv, a0]; exact (turnOf_zero u).symm
      · left
        rw [hv, turnOf_turnOf, show (a : Int) + ((d - a : Nat) : Int) = (u.length : Int) by omega, turnOf_full]
    have : ∃ t : Nat, t < d ∧ u = turnOf (leastR u) t := by
      rcases back with e | e
      · by_cases a0 : a = 0
        · exact ⟨0, by omega, by rw [hv, a0]; show u = turnOf (turnOf u (0 : Nat)) (0 : Nat); rw [show ((0 : Nat) : Int) = 0 from rfl, turnOf_zero, turnOf_zero]⟩
        · exact ⟨d - a, by omega, e⟩
      · exact ⟨0, by omega, by rw [show ((0 : Nat) : Int) = 0 from rfl, turnOf_zero]; exact e⟩
    obtain ⟨t, ht, et⟩ := this
    obtain ⟨v', o, a1, a2, a3, a4⟩ := find (leastR u) hvd hdec t ht
    exact ⟨v', List.mem_filter.mpr ⟨mem_words.mpr a1, decide_eq_true a2⟩, List.mem_map.mpr ⟨o, List.mem_range.mpr a3, by rw [← a4]; exact et.symm⟩⟩
  · rintro ⟨v, hv, hu⟩
    obtain ⟨v1, v2⟩ := List.mem_filter.mp hv
    have v3 := of_decide_eq_true v2
    have hvd := mem_words.mp v1
    obtain ⟨o, _, rfl⟩ := List.mem_map.mp hu
    have hud : Wd c d (turnOf v (o : Nat)) := hvd.turn
    exact ⟨mem_words.mpr hud, (gtP_pw hn hl hd hq hud).mpr ((UpA.turn hvd.len hd o).mpr (upA_dec hp hvd.len hd v3))⟩
end
/-! ### what is computed -/
def moreF (c : Int) (row : List Int) : List Int := row.map fun b => c - 1 - b
def wayL (more : List Int) : Nat → List Int
  | 0 => [1]
  | m + 1 => wayL more m ++ [((List.range (m + 1)).map fun p => g more p * g (wayL more m) (m + 1 - p - 1)).sum]
def grSum (c : Int) (row : List Int) : Int := ((divsN row.length).map fun d => (phiN (row.length / d) : Int) * ((List.range d).map fun p : Nat => ((p : Int) + 1) * g (moreF c row) p * g (wayL (moreF c row) row.length) (d - p - 1)).sum).sum
def greaterN (c : Int) (row : List Int) : Int := grSum c row / row.length
theorem wayL_len (more : List Int) : ∀ m, (wayL more m).length = m + 1
  | 0 => rfl
  | m + 1 => by show (wayL more m ++ _).length = _; rw [List.length_append, wayL_len more m]; rfl
theorem wayL_pre (more : List Int) : ∀ (m k i : Nat), i ≤ m → m ≤ k → g (wayL more k) i = g (wayL more m) i
  | m, 0, i, h1, h2 => by
    have : m = 0 := by omega
    subst this; rfl
  | m, k + 1, i, h1, h2 => by
    by_cases h : m = k + 1
    · subst h; rfl
    · show g (wayL more k ++ _) i = _
      rw [g_left (by rw [wayL_len]; omega)]
      exact wayL_pre more m k i h1 (by omega)
theorem g_more {c : Int} {row : List Int} {i : Nat} (h : i < row.length) : g (moreF c row) i = c - 1 - g row i := by
  unfold moreF g
  rw [List.getElem?_map, List.getElem?_eq_getElem h]; rfl
theorem wayL_cN {c n : Nat} {row : List Int} (hw : Wd c n row) : ∀ (m : Nat), m ≤ n → g (wayL (moreF c row) m) m = cN (g row) n c 0 m := by
  intro m
  induction m using Nat.strongRecOn with
  | _ m ih =>
    intro hm
    cases m with
    | zero => rw [cN_zero]; rfl
    | succ m =>
      rw [cN_all hw.lt (m + 1) 0 (by omega), cN_zero, if_neg (by omega), Int.add_zero]
      show g (wayL _ m ++ _) (m + 1) = _
      rw [g_right (by rw [wayL_len]; omega), wayL_len, Nat.sub_self, g_one]
      apply sm_congr
      intro p hp
      rw [List.mem_range] at hp
      rw [g_more (by rw [hw.len]; omega), Nat.zero_add, wayL_pre (moreF c row) (m + 1 - p - 1) m _ (Nat.le_refl _) (by omega), ih (m + 1 - p - 1) (by omega) (by omega)]
theorem grSum_eq {c n : Nat} {row : List Int} (hw : Wd c n row) : grSum c row = ((divsN n).map fun d => (phiN (n / d) : Int) * cS (g row) n c 0 d).sum := by
  unfold grSum
  rw [hw.len]
  apply sm_congr
  intro d hd
  have hd2 := mem_divsN.mp hd
  congr 1
  rw [cS_all hw.lt d 0 (by omega)]
  apply sm_congr
  intro p hp
  rw [List.mem_range] at hp
  rw [g_more (by rw [hw.len]; omega), wayL_pre (moreF c row) (d - p - 1) n _ (Nat.le_refl _) (by omega), wayL_cN hw (d - p - 1) (by omega), Nat.zero_add]
  have : ((p + 1 : Nat) : Int) = (p : Int) + 1 := by omega
  rw [this, Int.mul_comm ((p : Int) + 1), Int.mul_assoc]
theorem gr_count {c n : Nat} {row : List Int} (h1 : 1 ≤ n) (h2 : n ≤ 200) (hw : Wd c n row) (hp : PN n (g row)) : greaterN c row = (((necks c n).filter fun x => lexlt row x).length : Nat) := by
  have ne : ∀ w ∈ wordsL c n, w ≠ [] := fun w hw e => by have := (mem_words.mp hw).len; rw [e] at this; simp at this; omega
  have b := burnside (c := c) h1 h2 (gtP row) (fun w b hw => gtP_turn b (ne w hw))
  have e : ((divsN n).map fun d => (phiN (n / d) : Int) * ((((wordsL c n).filter fun w => gtP row w && decide (turnOf w d = w)).length : Nat) : Int)).sum = grSum c row := by
    rw [grSum_eq hw]
    apply sm_congr
    intro d hd
    have hd2 := mem_divsN.mp hd
    rw [fixed_len h1 hd (gtP row), up_len h1 hw.len hp hd2.1.1 (Nat.div_mul_cancel (Nat.dvd_of_mod_eq_zero hd2.2)), tur_len]
  have e2 : (necks c n).filter (gtP row) = (necks c n).filter fun x => lexlt row x := by
    apply List.filter_congr
    intro x hx
    have hxn := (mem_necks h1).mp hx
    have : x = leastR x := (nec_iff hxn.1.len h1).mpr hxn.2
    unfold gtP
    rw [← this]
  rw [e, e2] at b
  unfold greaterN
  rw [hw.len, ← b, Int.mul_ediv_cancel_left _ (by omega)]
end NK
set_option Elab.async false
set_option linter.all false
set_option maxRecDepth 100000
set_option maxHeartbeats 1000000
namespace NK
open Ab RM
/-! ### numbers of least rows -/
def rk (c n : Nat) (x : List Int) : Nat := ((necks c n).filter fun y => lexlt y x).length
def numberN (c : Int) (r : List Int) : Int := ringsN c r.length - greaterN c (leastR r) - 1
theorem lexlt_as {u v : List Int} (h : lexlt u v = true) : lexlt v u = false := by
  cases q : lexlt v u with
  | false => rfl
  | true =>
    have := lexlt_trans u v u h q
    rw [lexlt_irrefl] at this; cases this
theorem part_len {l : List (List Int)} {x : List Int} (nd : l.Nodup) (hx : x ∈ l) : l.length = (l.filter fun y => lexlt y x).length + 1 + (l.filter fun y => lexlt x y).length := by
  have key : (l.map fun _ => (1 : Int)).sum = (l.map fun y => (if lexlt y x = true then (1 : Int) else 0) + ((if x = y then (1 : Int) else 0) + (if lexlt x y = true then (1 : Int) else 0))).sum := by
    apply sm_congr
    intro y _
    cases h1 : lexlt y x with
    | true =>
      have h2 := lexlt_as h1
      have h3 : ¬ x = y := fun e => by rw [e, lexlt_irrefl] at h1; cases h1
      rw [if_neg h3, h2]; rfl
    | false =>
      cases h2 : lexlt x y with
      | true =>
        have h3 : ¬ x = y := fun e => by rw [e, lexlt_irrefl] at h2; cases h2
        rw [if_neg h3]; rfl
      | false => rw [if_pos (lexlt_tri x y h2 h1)]; rfl
  rw [sm_add, sm_add, sm_pick (fun _ => (1 : Int)) nd hx, ← len_sum (fun y => lexlt y x), ← len_sum (fun y => lexlt x y), sm_const] at key
  omega
section
variable {c n : Nat}
theorem num_rk {w : List Int} (h1 : 1 ≤ n) (h2 : n ≤ 200) (hw : Wd c n w) : numberN c w = (rk c n (leastR w) : Nat) := by
  have hne : w ≠ [] := fun e => by have := hw.len; rw [e] at this; simp at this; omega
  have hL : Wd c n (leastR w) := by rw [← leastT_turn hne]; exact hw.turn
  have hN := least_nec hw.len h1
  unfold numberN
  rw [gr_count h1 h2 hL hN.pn, hw.len, ← necks_len h1 h2]
  have := part_len (necks_nodup c n) ((mem_necks h1).mpr ⟨hL, hN⟩)
  unfold rk
  omega
theorem rk_lt {x : List Int} (h1 : 1 ≤ n) (hx : x ∈ necks c n) : rk c n x < (necks c n).length := by
  have := part_len (necks_nodup c n) hx
  unfold rk; omega
theorem filter_le {α : Type} {p q : α → Bool} : ∀ {l : List α}, (∀ x ∈ l, p x = true → q x = true) → (l.filter p).length ≤ (l.filter q).length
  | [], _ => Nat.le_refl _
  | x :: l, h => by
    have ih := filter_le (l := l) fun y hy => h y (List.mem_cons_of_mem _ hy)
    have hx := h x List.mem_cons_self
    rw [List.filter_cons, List.filter_cons]
    cases hp : p x with
    | true => rw [hx hp]; simpa using ih
    | false =>
      cases q x with
      | true => simp; omega
      | false => simpa using ih
theorem filter_eq {α : Type} {p q : α → Bool} {l : List α} (h : ∀ x ∈ l, p x = q x) : (l.filter p).length = (l.filter q).length := by rw [List.filter_congr h]
/-- how many are no greater -/
theorem le_count {x X : List Int} (hx : x ∈ necks c n) : (rk c n x < (necks c n).length - ((necks c n).filter fun y => lexlt X y).length) ↔ lexlt X x = false := by
  have hp : ((necks c n).filter fun y => !lexlt X y).length + ((necks c n).filter fun y => lexlt X y).length = (necks c n).length := by
    have := len_sum (fun y => !lexlt X y) (necks c n)
    have h2 := len_sum (fun y => lexlt X y) (necks c n)
    have h3 : (((necks c n).map fun y => if (!lexlt X y) = true then (1 : Int) else 0).sum) + ((necks c n).map fun y => if lexlt X y = true then (1 : Int) else 0).sum = ((necks c n).length : Nat) := by
      rw [← sm_add]
      have : ((necks c n).map fun y => (if (!lexlt X y) = true then (1 : Int) else 0) + (if lexlt X y = true then (1 : Int) else 0)).sum = ((necks c n).map fun _ => (1 : Int)).sum := by
        apply sm_congr
        intro y _
        cases lexlt X y <;> rfl
      rw [this, sm_const, Int.mul_one]
    omega
  constructor
  · intro h
    cases q : lexlt X x with
    | false => rfl
    | true =>
      exfalso
      have : ((necks c n).filter fun y => !lexlt X y).length ≤ rk c n x := filter_le fun y _ hy => by
        have hy : lexlt X y = false := by simpa using hy
        cases q2 : lexlt y x with
        | true => rfl
        | false =>
          exfalso
          by_cases e : x = y
          · subst e; rw [q] at hy; cases hy
          · cases q3 : lexlt x y with
            | true => have := lexlt_trans X x y q q3; rw [hy] at this; cases this
            | false => exact e (lexlt_tri x y q3 q2)
      omega
  · intro h
    have : ((necks c n).filter fun y => lexlt y x).length + 1 ≤ ((necks c n).filter fun y => !lexlt X y).length := by
      have a : ((necks c n).filter fun y => !lexlt x y).length ≤ ((necks c n).filter fun y => !lexlt X y).length := filter_le fun y _ hy => by
        have hy : lexlt x y = false := by simpa using hy
        cases q2 : lexlt X y with
        | false => rfl
        | true =>
          exfalso
          cases q3 : lexlt y x with
          | true => have := lexlt_trans X y x q2 q3; rw [h] at this; cases this
          | false => have := lexlt_tri x y hy q3; subst this; rw [h] at q2; cases q2
      have b := part_len (necks_nodup c n) hx
      have hp2 : ((necks c n).filter fun y => !lexlt x y).length + ((necks c n).filter fun y => lexlt x y).length = (necks c n).length := by
        have := len_sum (fun y => !lexlt x y) (necks c n)
        have h2 := len_sum (fun y => lexlt x y) (necks c n)
        have h3 : (((necks c n).map fun y => if (!lexlt x y) = true then (1 : Int) else 0).sum) + ((necks c n).map fun y => if lexlt x y = true then (1 : Int) else 0).sum = ((necks c n).length : Nat) := by
          rw [← sm_add]
          have : ((necks c n).map fun y => (if (!lexlt x y) = true then (1 : Int) else 0) + (if lexlt x y = true then (1 : Int) else 0)).sum = ((necks c n).map fun _ => (1 : Int)).sum := by
            apply sm_congr
            intro y _
            cases lexlt x y <;> rfl
          rw [this, sm_const, Int.mul_one]
        omega
      omega
    unfold rk
    omega
theorem floor_count {X r : List Int} (h1 : 1 ≤ n) (hX : Wd c n X) (hr : IsFloor c n X r) : ((necks c n).filter fun y => lexlt r y).length = ((necks c n).filter fun y => lexlt X y).length := filter_eq fun y hy => by
  have hy2 := (mem_necks h1).mp hy
  cases q : lexlt X y with
  | true =>
    rw [lt_iff hr.wd.len hy2.1.len]
    exact lt_of_le hr.le ((lt_iff hX.len hy2.1.len).mp q)
  | false =>
    rw [not_lt_iff hr.wd.len hy2.1.len]
    exact hr.top y hy2.1 hy2.2 ((not_lt_iff hX.len hy2.1.len).mp q)
/-- the search's question -/
theorem ask {X r x : List Int} {k : Nat} (h1 : 1 ≤ n) (h2 : n ≤ 200) (hX : Wd c n X) (hr : IsFloor c n X r) (hx : x ∈ necks c n) (hk : rk c n x = k) : ((k : Int) < ringsN c n - greaterN c r) ↔ ¬ LT n (g X) (g x) := by
  have hx2 := (mem_necks h1).mp hx
  rw [gr_count h1 h2 hr.wd hr.nec.pn, floor_count h1 hX hr, ← necks_len h1 h2, ← not_lt_iff hX.len hx2.1.len, ← le_count hx, hk]
  have : ((necks c n).filter fun y => lexlt X y).length ≤ (necks c n).length := List.length_filter_le _ _
  omega
theorem sorted_rank : ∀ {l : List (List Int)}, l.Pairwise (fun u v => lexlt u v = true) → ∀ (k : Nat) (h : k < l.length), (l.filter fun y => lexlt y l[k]).length = k
  | [], _, k, h => by simp at h
  | x :: l, hs, 0, h => by
    have hs2 := List.pairwise_cons.mp hs
    show ((x :: l).filter fun y => lexlt y x).length = 0
    rw [List.filter_cons, lexlt_irrefl]
    rw [List.filter_eq_nil_iff.mpr fun y hy => by rw [lexlt_as (hs2.1 y hy)]; decide]
    rfl
  | x :: l, hs, k + 1, h => by
    have hs2 := List.pairwise_cons.mp hs
    have hk : k < l.length := by simpa using h
    show ((x :: l).filter fun y => lexlt y l[k]).length = k + 1
    rw [List.filter_cons, if_pos (hs2.1 _ (List.getElem_mem hk)), List.length_cons, sorted_rank hs2.2 k hk]
theorem rk_at {k : Nat} (h : k < (necks c n).length) : rk c n (necks c n)[k] = k := sorted_rank (necks_sorted c n) k h
theorem rk_inj {x y : List Int} (hx : x ∈ necks c n) (hy : y ∈ necks c n) (e : rk c n x = rk c n y) : x = y := by
  obtain ⟨i, hi, rfl⟩ := List.getElem_of_mem hx
  obtain ⟨j, hj, rfl⟩ := List.getElem_of_mem hy
  rw [rk_at hi, rk_at hj] at e
  subst e; rfl
/-- the next one, the one ahead -/
structure Nxt (c n : Nat) (x y : List Int) : Prop where
  y_in : y ∈ necks c n
  lt : lexlt x y = true
  least : ∀ z ∈ necks c n, lexlt x z = true → lexlt z y = false
theorem Nxt.rk {x y : List Int} (hx : x ∈ necks c n) (h : Nxt c n x y) : rk c n y = rk c n x + 1 := by
  obtain ⟨i, hi, rfl⟩ := List.getElem_of_mem hx
  obtain ⟨j, hj, rfl⟩ := List.getElem_of_mem h.y_in
  rw [rk_at hi, rk_at hj]
  have srt := List.pairwise_iff_getElem.mp (necks_sorted c n)
  have hij : i < j := by
    rcases Nat.lt_trichotomy i j with q | q | q
    · exact q
    · subst q; have := h.lt; rw [lexlt_irrefl] at this; cases this
    · have := lexlt_as (srt j i hj hi q); rw [h.lt] at this; cases this
  rcases Nat.lt_or_ge (i + 1) j with q | q
  · exfalso
    have := h.least _ (List.getElem_mem (show i + 1 < (necks c n).length by omega)) (srt i (i + 1) hi (by omega) (by omega))
    rw [srt (i + 1) j (by omega) hj q] at this; cases this
  · omega
structure Ahd (c n : Nat) (x y : List Int) : Prop where
  y_in : y ∈ necks c n
  lt : lexlt y x = true
  top : ∀ z ∈ necks c n, lexlt z x = true → lexlt y z = false
theorem Ahd.rk {x y : List Int} (hx : x ∈ necks c n) (h : Ahd c n x y) : rk c n x = rk c n y + 1 := by
  refine Nxt.rk h.y_in ⟨hx, h.lt, fun z hz hyz => ?_⟩
  cases q : lexlt z x with
  | false => rfl
  | true => have := h.top z hz q; rw [hyz] at this; cases this
theorem nxt_some {x : List Int} (hx : x ∈ necks c n) (h : rk c n x + 1 < (necks c n).length) : ∃ y, y ∈ necks c n ∧ lexlt x y = true := by
  obtain ⟨i, hi, rfl⟩ := List.getElem_of_mem hx
  rw [rk_at hi] at h
  exact ⟨_, List.getElem_mem h, List.pairwise_iff_getElem.mp (necks_sorted c n) i (i + 1) hi h (by omega)⟩
theorem ahd_some {x : List Int} (hx : x ∈ necks c n) (h : 0 < rk c n x) : ∃ y, y ∈ necks c n ∧ lexlt y x = true := by
  obtain ⟨i, hi, rfl⟩ := List.getElem_of_mem hx
  rw [rk_at hi] at h
  exact ⟨(necks c n)[0], List.getElem_mem (by omega), List.pairwise_iff_getElem.mp (necks_sorted c n) 0 i (by omega) hi h⟩
/-- a floor there is -/
theorem zeros_nec (h1 : 1 ≤ n) (hc : 1 ≤ c) : List.replicate n 0 ∈ necks c n := (mem_necks h1).mpr ⟨wd_of (by simp) fun x hx => by
  have := List.eq_of_mem_replicate hx
  omega, fun j hj ⟨k, k1, _, k3⟩ => by
  have e : ∀ i, g (List.replicate n (0 : Int)) (i % n) = 0 := fun i => g_rep (Nat.mod_lt _ (by omega))
  have k3' : g (List.replicate n (0 : Int)) ((k + j) % n) < g (List.replicate n (0 : Int)) k := k3
  rw [e, g_rep k1] at k3'
  omega⟩
theorem floor_ex {X : List Int} (h1 : 1 ≤ n) (hc : 1 ≤ c) (hX : Wd c n X) : ∃ r, IsFloor c n X r := by
  have key : ∀ l : List (List Int), (∀ y ∈ l, y ∈ necks c n) → (∃ r, r ∈ necks c n ∧ ¬ LT n (g X) (g r)) → ∃ r, (r ∈ necks c n ∧ ¬ LT n (g X) (g r)) ∧ ∀ x ∈ l, ¬ LT n (g X) (g x) → ¬ LT n (g r) (g x) := by
    intro l
    induction l with
    | nil => intro _ ⟨r, hr⟩; exact ⟨r, hr, fun x hx => by cases hx⟩
    | cons y l ih =>
      intro hl hex
      obtain ⟨r, hr, ht⟩ := ih (fun z hz => hl z (List.mem_cons_of_mem _ hz)) hex
      by_cases q : ¬ LT n (g X) (g y) ∧ LT n (g r) (g y)
      · refine ⟨y, ⟨hl y List.mem_cons_self, q.1⟩, fun x hx hle => ?_⟩
        rcases List.mem_cons.mp hx with rfl | hx
        · exact LT.irrefl
        · intro z
          exact ht x hx hle (q.2.trans z)
      · refine ⟨r, hr, fun x hx hle z => ?_⟩
        rcases List.mem_cons.mp hx with rfl | hx
        · exact q ⟨hle, z⟩
        · exact ht x hx hle z
  have z := zeros_nec h1 hc
  have zw := (mem_necks h1).mp z
  obtain ⟨r, hr, ht⟩ := key (necks c n) (fun _ h => h) ⟨_, z, fun ⟨k, k1, _, k3⟩ => by
    rw [g_rep k1] at k3
    have := (hX.lt k k1).1
    omega⟩
  have hr2 := (mem_necks h1).mp hr.1
  exact ⟨r, hr2.1, hr2.2, hr.2, fun x hx hn hle => ht x ((mem_necks h1).mpr ⟨hx, hn⟩) hle⟩
theorem ahd_of {x r : List Int} {a : Nat} (h1 : 1 ≤ n) (hc : 1 ≤ c) (hx : x ∈ necks c n) (ha : a < n) (p1 : 0 < g x a) (p2 : ∀ i, a < i → i < n → g x i = 0) (hr : IsFloor c n (predw c n a x) r) : Ahd c n x r := by
  have hx2 := (mem_necks h1).mp hx
  obtain ⟨wd, iff⟩ := predw_ok (c := (c : Int)) (by omega) hx2.1 ha p1 p2
  refine ⟨(mem_necks h1).mpr ⟨hr.wd, hr.nec⟩, (lt_iff hr.wd.len hx2.1.len).mpr ((iff r hr.wd).mpr hr.le), fun z hz hlt => ?_⟩
  have hz2 := (mem_necks h1).mp hz
  rw [not_lt_iff hr.wd.len hz2.1.len]
  exact hr.top z hz2.1 hz2.2 ((iff z hz2.1).mp ((lt_iff hz2.1.len hx2.1.len).mp hlt))
/-- a row's first beads and a greatest end -/
theorem prefix_le {x : List Int} {a : Nat} {m : Int} (hx : Wd c n x) (ha : a < n) (hm : 0 ≤ m ∧ m < c) :
    Wd c n (x.take a ++ [m] ++ List.replicate (n - a - 1) ((c : Int) - 1)) ∧ (¬ LT n (g (x.take a ++ [m] ++ List.replicate (n - a - 1) ((c : Int) - 1))) (g x) ↔ g x a ≤ m) := by
  have hl := hx.len
  have gp : ∀ i, i < n → g (x.take a ++ [m] ++ List.replicate (n - a - 1) ((c : Int) - 1)) i = if i < a then g x i else if i = a then m else (c : Int) - 1 := fun i hi => by
    rw [g_put (a := a) (by rw [List.length_take]; omega)]
    by_cases q : i < a
    · rw [if_pos q, if_pos q, g_take q]
    · rw [if_neg q, if_neg q]
      by_cases q2 : i = a
      · rw [if_pos q2, if_pos q2]
      · rw [if_neg q2, if_neg q2, g_rep (by omega)]
  refine ⟨⟨by simp; omega, fun i hi => ?_⟩, ?_⟩
  · rw [gp i hi]
    split
    · exact hx.lt i hi
    · split
      · exact hm
      · omega
  · constructor
    · intro h
      rcases Int.lt_or_le m (g x a) with q | q
      · exact absurd ⟨a, ha, fun i hi => by rw [gp i (by omega), if_pos hi], by rw [gp a ha, if_neg (by omega), if_pos rfl]; exact q⟩ h
      · exact q
    · rintro h ⟨k, k1, k2, k3⟩
      rw [gp k k1] at k3
      by_cases q : k < a
      · rw [if_pos q] at k3; omega
      · rw [if_neg q] at k3
        by_cases q2 : k = a
        · rw [if_pos q2] at k3; subst q2; omega
        · rw [if_neg q2] at k3
          have := (hx.lt k k1).2
          omega
/-- the beads that are told of how many ways there are: no greater than all rows -/
theorem way_range {row : List Int} (hw : Wd c n row) {m i : Nat} (hi : i ≤ m) (hm : m ≤ n) : 0 ≤ g (wayL (moreF c row) m) i ∧ g (wayL (moreF c row) m) i ≤ (c : Int) ^ i := by
  rw [wayL_pre _ i m i (Nat.le_refl _) hi, wayL_cN hw i (by omega)]
  unfold cN
  have := List.length_filter_le (fun w => decide (run (g row) n 0 w = some 0)) (wordsL c i)
  rw [words_len] at this
  have e : ((c ^ i : Nat) : Int) = (c : Int) ^ i := Int.natCast_pow ..
  omega
end
end NK
set_option Elab.async false
set_option linter.all false
set_option maxRecDepth 100000
set_option maxHeartbeats 1000000
namespace Ab
open PySem L2
/-! ### rows compared -/
theorem ints_at {us : List Value} {ns : List Int} (hn : Vals (ns.map V.int) us) : ns.length = us.length ∧ ∀ j (h : j < us.length), ∃ t, us[j] = .int ((ns[j]?).getD 0) t := by
  have l1 : ns.length = us.length := by have := hn.length; rwa [List.length_map] at this
  refine ⟨l1, fun j h => ?_⟩
  have hj : j < ns.length := by omega
  obtain ⟨u, k1, k2⟩ := hn.get (i := j) (x := .int ns[j]) (by simp [hj])
  rw [List.getElem?_eq_getElem h] at k1
  cases k1
  rw [List.getElem?_eq_getElem hj]
  exact k2
theorem lex_range (ns ms : List Int) : SeqAt.firstLt (fun j => (ns[j]?).getD 0 == (ms[j]?).getD 0) (fun j => decide ((ns[j]?).getD 0 < (ms[j]?).getD 0)) (decide (ns.length < ms.length)) (List.range (min ns.length ms.length)) = lexlt ns ms := by
  have fin := lex_first ns ms (fun j => (ns[j]?).getD 0 == (ms[j]?).getD 0) (fun j => decide ((ns[j]?).getD 0 < (ms[j]?).getD 0)) 0 (fun j h1 h2 => by simp [h1, h2]) (fun j h1 h2 => by simp [h1, h2])
  have e0 : (List.range (min ns.length ms.length)).map (0 + ·) = List.range (min ns.length ms.length) := by simp
  rw [e0] at fin
  exact fin
theorem not_lt_dec (a b : Int) : (!decide (b < a)) = decide (a ≤ b) := by
  by_cases h : a ≤ b
  · rw [decide_eq_true h, decide_eq_false (by omega)]; rfl
  · rw [decide_eq_false h, decide_eq_true (by omega)]; rfl
theorem lex_le (ns ms : List Int) : SeqAt.firstLt (fun j => (ns[j]?).getD 0 == (ms[j]?).getD 0) (fun j => decide ((ns[j]?).getD 0 ≤ (ms[j]?).getD 0)) (decide (ns.length ≤ ms.length)) (List.range (min ns.length ms.length)) = !lexlt ms ns := by
  have e1 : (fun j : Nat => decide ((ns[j]?).getD 0 ≤ (ms[j]?).getD 0)) = fun j : Nat => !decide ((ms[j]?).getD 0 < (ns[j]?).getD 0) := by funext j; rw [not_lt_dec]
  have e2 : decide (ns.length ≤ ms.length) = !decide (ms.length < ns.length) := by
    by_cases h : ns.length ≤ ms.length
    · rw [decide_eq_true h, decide_eq_false (by omega)]; rfl
    · rw [decide_eq_false h, decide_eq_true (by omega)]; rfl
  have e3 : (fun j : Nat => (ns[j]?).getD 0 == (ms[j]?).getD 0) = fun j : Nat => (ms[j]?).getD 0 == (ns[j]?).getD 0 := by funext j; exact Bool.beq_comm
  rw [e1, e2, e3, SeqAt.firstLt_not, Nat.min_comm, lex_range]
theorem rows_le {A : Around} {s : Shared} {p q : Addr} {us ws : List Value} {ns ms : List Int} (hp : s.heap.IsList p us.toArray) (hq : s.heap.IsList q ws.toArray) (hn : Vals (ns.map V.int) us) (hm : Vals (ms.map V.int) ws) (hu : A.units < cLine) :
    SeqAt.RcOp .LtE A s (.ref p) (.ref q) (!lexlt ms ns) := by
  obtain ⟨l1, at1⟩ := ints_at hn
  obtain ⟨l2, at2⟩ := ints_at hm
  have key := SeqAt.RcOp.lists_le (e := fun j => (ns[j]?).getD 0 == (ms[j]?).getD 0) (r := fun j => decide ((ns[j]?).getD 0 ≤ (ms[j]?).getD 0)) hp hq hu (fun j h1 h2 => by
      simp only [List.size_toArray] at h1 h2
      obtain ⟨t, e1⟩ := at1 j h1
      obtain ⟨t', e2⟩ := at2 j h2
      simp only [List.getElem_toArray, e1, e2]
      exact SeqAt.EqAt.int_int _ _ _ _) (fun j h1 h2 _ => by
      simp only [List.size_toArray] at h1 h2
      obtain ⟨t, e1⟩ := at1 j h1
      obtain ⟨t', e2⟩ := at2 j h2
      simp only [List.getElem_toArray, e1, e2]
      exact fun prog w E Q h => richCompare_gives (op := .LtE) (typeIs_int s _ t) (typeIs_int s _ t') F.slot_int_le F.entry_int_le (F.args_int_le_2 _ _) (gives_int_le _ _ t t') (fun x => nomatch x) h)
  simp only [List.size_toArray] at key
  rw [← l1, ← l2, lex_le] at key
  exact key
theorem rows_ge {A : Around} {s : Shared} {p q : Addr} {us ws : List Value} {ns ms : List Int} (hp : s.heap.IsList p us.toArray) (hq : s.heap.IsList q ws.toArray) (hn : Vals (ns.map V.int) us) (hm : Vals (ms.map V.int) ws) (hu : A.units < cLine) :
    SeqAt.RcOp .GtE A s (.ref p) (.ref q) (!lexlt ns ms) := by
  obtain ⟨l1, at1⟩ := ints_at hn
  obtain ⟨l2, at2⟩ := ints_at hm
  have key := SeqAt.RcOp.lists_ge (e := fun j => (ns[j]?).getD 0 == (ms[j]?).getD 0) (r := fun j => decide ((ms[j]?).getD 0 ≤ (ns[j]?).getD 0)) hp hq hu (fun j h1 h2 => by
      simp only [List.size_toArray] at h1 h2
      obtain ⟨t, e1⟩ := at1 j h1
      obtain ⟨t', e2⟩ := at2 j h2
      simp only [List.getElem_toArray, e1, e2]
      exact SeqAt.EqAt.int_int _ _ _ _) (fun j h1 h2 _ => by
      simp only [List.size_toArray] at h1 h2
      obtain ⟨t, e1⟩ := at1 j h1
      obtain ⟨t', e2⟩ := at2 j h2
      simp only [List.getElem_toArray, e1, e2]
      exact fun prog w E Q h => richCompare_gives (op := .GtE) (typeIs_int s _ t) (typeIs_int s _ t') F.slot_int_ge F.entry_int_ge (F.args_int_ge_2 _ _) (gives_int_ge _ _ t t') (fun x => nomatch x) h)
  simp only [List.size_toArray] at key
  have e3 : (fun j : Nat => (ns[j]?).getD 0 == (ms[j]?).getD 0) = fun j : Nat => (ms[j]?).getD 0 == (ns[j]?).getD 0 := by funext j; exact Bool.beq_comm
  rw [← l1, ← l2, e3, Nat.min_comm] at key
  have := lex_le ms ns
  have e4 : decide (ns.length ≥ ms.length) = decide (ms.length ≤ ns.length) := rfl
  first
    | (rw [this] at key; exact key)
    | (rw [e4, this] at key; exact key)
section
variable {X : Cx} {e e1 e2 : Expr} {τ : Tau} {a : AV} {l : List AV} {pos : Pos} {r q : List Int}
def rLeR (K : PySem.W.Frag) (f : List Int → List Int → Bool) : R2 := fun x y H Q => ∃ (a b : Addr) (ns ms : List Int), x = .ref a ∧ y = .ref b ∧ SqL K H a (ns.map V.int) ∧ SqL K H b (ms.map V.int) ∧ Q (.bl (f ns ms)) H
theorem op_leR (hu : X.A.units < cLine) : OpR X (compareOp .LtE) (rLeR X.K fun ns ms => !lexlt ms ns) := by
  intro pins s σ H x y v u Q I rx ry h
  obtain ⟨a, b, ns, ms, rfl, rfl, ha, hb, q⟩ := h
  cases rx
  cases ry
  obtain ⟨its, r1, p1, _⟩ := I.list ha
  obtain ⟨its2, r2, p2, _⟩ := I.list hb
  have z : wpAny (model X.prog X.w) X.A (compareOp .LtE (.ref a) (.ref b)) (EP X pins σ Q) X.xe s := rows_le p1.isList p2.isList r1 r2 hu X.prog X.w X.xe (EP X pins σ Q) ⟨.bl _, H, I, rfl, q⟩
  exact z
theorem op_geR (hu : X.A.units < cLine) : OpR X (compareOp .GtE) (rLeR X.K fun ns ms => !lexlt ns ms) := by
  intro pins s σ H x y v u Q I rx ry h
  obtain ⟨a, b, ns, ms, rfl, rfl, ha, hb, q⟩ := h
  cases rx
  cases ry
  obtain ⟨its, r1, p1, _⟩ := I.list ha
  obtain ⟨its2, r2, p2, _⟩ := I.list hb
  have z : wpAny (model X.prog X.w) X.A (compareOp .GtE (.ref a) (.ref b)) (EP X pins σ Q) X.xe s := rows_ge p1.isList p2.isList r1 r2 hu X.prog X.w X.xe (EP X pins σ Q) ⟨.bl _, H, I, rfl, q⟩
  exact z
theorem r_leR {K : PySem.W.Frag} {f : List Int → List Int → Bool} : R2A (rLeR K f) (.il r) (.il q) (.bl (f r q)) := fun x y B H Q g hx hy k => by
  obtain ⟨a, xs, rfl, h1, h2⟩ := hx
  obtain ⟨b, ys, rfl, h3, h4⟩ := hy
  rw [reps_ints h2] at h1
  rw [reps_ints h4] at h3
  exact ⟨a, b, r, q, rfl, rfl, SqL.of (g _ _ h1), SqL.of (g _ _ h3), k _ B H (.refl g) rfl⟩
theorem ct_leR (hu : X.A.units + 64 < cLine) (h1 : CE X e1 τ (.il r)) (h2 : CE X e2 τ (.il q)) : CT X (.Compare e1 [.LtE] [e2] pos) τ (!lexlt q r) := ct_op (pt_cmpR (op_leR (by omega)) h1 h2 (nomark _)) r_leR
theorem ct_geR (hu : X.A.units + 64 < cLine) (h1 : CE X e1 τ (.il r)) (h2 : CE X e2 τ (.il q)) : CT X (.Compare e1 [.GtE] [e2] pos) τ (!lexlt r q) := ct_op (pt_cmpR (op_geR (by omega)) h1 h2 (nomark _)) r_leR
/-! ### is None -/
def AV.isN (a : AV) (b : Bool) : Prop := ∀ B x, a.p B x → decide (x = V.non) = b
theorem isN_non : AV.non.isN true := fun B x h => by cases h; rfl
theorem isN_lst (l : List AV) : (AV.lst l).isN false := fun B x h => by obtain ⟨a, xs, rfl, _⟩ := h; rfl
theorem isN_int (i : Int) : (AV.int i).isN false := fun B x h => by cases h; rfl
theorem isN_ins (C : Addr) (fs : List (Str × AV)) : (AV.ins C fs).isN false := fun B x h => by obtain ⟨a, dx, vs, rfl, _⟩ := h; rfl
theorem c_isN {b : Bool} {j : Nat} {p' : Pos} (h : CE X e1 τ a) (k : a.isN b) (hm : lastMarks [.Is] [.Constant .none j p'] = false := by with_unfolding_all rfl) : CE X (.Compare e1 [.Is] [.Constant .none j p'] pos) τ (.bl b) :=
  ce_op (pe_cmpR op_isN h c_non hm) fun x y B H Q g hx hy q => ⟨hy, q _ B H (.refl g) (by rw [k B x hx]; rfl)⟩
theorem ct_isN {b : Bool} {j : Nat} {p' : Pos} (h : CE X e1 τ a) (k : a.isN b) (hm : lastMarks [.Is] [.Constant .none j p'] = false := by with_unfolding_all rfl) : CT X (.Compare e1 [.Is] [.Constant .none j p'] pos) τ b :=
  ct_op (pt_cmpR op_isN h c_non hm) fun x y B H Q g hx hy q => ⟨hy, q _ B H (.refl g) (by rw [k B x hx]; rfl)⟩
theorem ct_notN {b : Bool} {j : Nat} {p' : Pos} (h : CE X e1 τ a) (k : a.isN b) (hm : lastMarks [.IsNot] [.Constant .none j p'] = false := by with_unfolding_all rfl) : CT X (.Compare e1 [.IsNot] [.Constant .none j p'] pos) τ (!b) :=
  ct_op (pt_cmpR op_notN h c_non hm) fun x y B H Q g hx hy q => ⟨hy, q _ B H (.refl g) (by rw [k B x hx]; rfl)⟩
/-! ### a slot's own list read for a while, to make a new list of numbers -/
theorem cn_ownI (i : Nat) {sh0 : Shp} {ls0 : List (List AV)} {ns : List Int} (h : CN X e (τ.set i (some (.val (valOf sh0 ls0)))) (ns.map AV.int)) (ht : τ[i]? = some (some (.ow sh0 ls0)) := by rfl) : CN X e τ (ns.map AV.int) :=
  cn_of h fun F0 F B σ H Q S q => by
    obtain ⟨B1, S'⟩ := sta_peek S ht
    refine ⟨F0, F, B1, S', fun p xs B' H' x n1 n2 n3 n4 => ?_⟩
    rw [reps_ints n4] at n3
    exact q p _ B H' (ext_back S.gr x) n1 (S.gr.back n1) n3 (reps_of_ints _)
end
end Ab
set_option Elab.async false
set_option linter.all false
set_option maxRecDepth 100000
set_option maxHeartbeats 1000000
namespace NK
open Ab RM PySem L2
theorem nth_g (ns : List Int) (i : Nat) : nth ns (i : Int) = g ns i := by unfold nth g; rw [Int.toNat_natCast]
theorem col_nat {c : Int} (h : Col c) : ∃ k : Nat, (k : Int) = c ∧ 1 ≤ k := ⟨c.toNat, by have := h.1; omega, by have := h.1; omega⟩
theorem wd_more {c : Int} {n i : Nat} {row : List Int} (hw : Wd c n row) (hi : i < n) : 0 ≤ g (moreF c row) i ∧ g (moreF c row) i < c := by
  rw [g_more (by rw [hw.len]; exact hi)]
  have := hw.lt i hi
  omega
theorem bits_pow {c x : Int} {i : Nat} (hc : Col c) (h0 : 0 ≤ x) (hx : x ≤ c ^ i) : Builtin.Int.intBits x ≤ 100 * i + 1 := by
  apply bits_le
  have e : (10 : Int) ^ 30 ≤ ((2 ^ 100 : Nat) : Int) := by decide
  have h1 := hc.1
  have h2 := hc.2
  have hcn : c.natAbs ≤ 2 ^ 100 := by omega
  have k1 : c.natAbs ^ i ≤ (2 ^ 100) ^ i := Nat.pow_le_pow_left hcn i
  rw [← Nat.pow_mul] at k1
  have k2 : (2 : Nat) ^ (100 * i) < 2 ^ (100 * i + 1) := Nat.pow_lt_pow_right (by decide) (by omega)
  have k3 : x.natAbs ≤ (c ^ i).natAbs := by omega
  rw [Int.natAbs_pow] at k3
  omega
theorem way_mul {c : Nat} {n : Nat} {row : List Int} {m p j k : Nat} (hc : Col c) (hw : Wd c n row) (hp : p < n) (hj : j ≤ m) (hm : m ≤ n) (hn : n ≤ 200) (hk : k ≤ 200) : IntMulOk ((k : Int) * g (moreF c row) p) (g (wayL (moreF c row) m) j) := by
  have r1 := wd_more hw hp
  have r2 := way_range hw hj hm
  have b2 := bits_pow hc r2.1 r2.2
  have e8 : (2 : Nat) ^ 8 = 256 := by decide
  have b1 : Builtin.Int.intBits ((k : Int) * g (moreF c row) p) ≤ Builtin.Int.intBits (g (moreF c row) p) + 8 := bits_mul (by rw [e8]; omega)
  have b3 : Builtin.Int.intBits (g (moreF c row) p) ≤ 100 * 1 + 1 := bits_pow hc r1.1 (by rw [Int.pow_one]; omega)
  exact mul_ok (n := 0) (by omega)
theorem way_mul1 {c : Nat} {n : Nat} {row : List Int} {m p j : Nat} (hc : Col c) (hw : Wd c n row) (hp : p < n) (hj : j ≤ m) (hm : m ≤ n) (hn : n ≤ 200) : IntMulOk (g (moreF c row) p) (g (wayL (moreF c row) m) j) := by
  have := way_mul (k := 1) hc hw hp hj hm hn (by decide)
  rwa [show ((1 : Nat) : Int) = 1 from rfl, Int.one_mul] at this
theorem rng_range (n : Nat) : (rng 0 n).map AV.int = (List.range n).map fun p : Nat => AV.int (p : Int) := by
  unfold rng
  rw [List.map_map]
  apply List.map_congr_left
  intro i _
  show AV.int (0 + (i : Int)) = AV.int (i : Int)
  rw [Int.zero_add]
/-- what is handed from shares to greater -/
def shareL (n : Nat) : List AV := (divsN n).map fun d : Nat => .tup [.int (d : Int), .int ((phiN (n / d) : Nat) : Int)]
theorem divs_len (n : Nat) : (divsN n).length ≤ n := by
  have := List.length_filter_le (fun b => decide (n % b = 0)) (rngN n)
  rw [rngN_len] at this
  exact this
theorem beads_wd {c : Int} {m : Nat} {r : List Int} (h : Beads c m r) : Wd c r.length r := wd_of rfl h.nn
theorem wd_ne {c : Int} {n : Nat} {r : List Int} (h : Wd c n r) (hn : 1 ≤ n) : r ≠ [] := fun e => by have := h.len; rw [e] at this; simp at this; omega
theorem wd_ring {c : Int} {n : Nat} {r : List Int} (h : Wd c n r) (hn : 1 ≤ n) (h2 : n ≤ 200) : Ring r := ⟨wd_ne h hn, by rw [h.len]; exact h2, fun x hx => (h.mem x hx).1⟩
theorem wd_least {c : Int} {n : Nat} {r : List Int} (h : Wd c n r) (hn : 1 ≤ n) : Wd c n (leastR r) := by rw [← leastT_turn (wd_ne h hn)]; exact h.turn
theorem least_in {c n : Nat} {r : List Int} (h : Wd c n r) (hn : 1 ≤ n) : leastR r ∈ necks c n := (mem_necks hn).mpr ⟨wd_least h hn, least_nec h.len hn⟩
/-- the last place with a property, as the greatest of all of them -/
theorem max_place {n : Nat} {p : Nat → Bool} {ps : List Int} (hps : ps = ((List.range n).filter p).map fun i : Nat => (i : Int)) (hne : ps ≠ []) : ∃ a : Nat, maxI ps = (a : Int) ∧ a < n ∧ p a = true ∧ ∀ i, a < i → i < n → p i = false := by
  obtain ⟨h1, h2⟩ := maxI_ex hne
  rw [hps] at h1
  obtain ⟨a, ha, e⟩ := List.mem_map.mp h1
  obtain ⟨a1, a2⟩ := List.mem_filter.mp ha
  rw [← hps] at e
  refine ⟨a, e.symm, List.mem_range.mp a1, a2, fun i hi hin => ?_⟩
  cases q : p i with
  | false => rfl
  | true =>
    have := h2 (i : Int) (by rw [hps]; exact List.mem_map.mpr ⟨i, List.mem_filter.mpr ⟨List.mem_range.mpr hin, q⟩, rfl⟩)
    omega
end NK
set_option Elab.async false
set_option linter.all false
set_option maxRecDepth 100000
set_option maxHeartbeats 1000000
namespace NK
open Ab RM PySem L2
section
variable {c n : Nat}
theorem nxt_or {x : List Int} (hx : x ∈ necks c n) : ((∀ z ∈ necks c n, lexlt x z = false) ∧ rk c n x + 1 = (necks c n).length) ∨ ∃ y, Nxt c n x y := by
  obtain ⟨i, hi, rfl⟩ := List.getElem_of_mem hx
  have srt := List.pairwise_iff_getElem.mp (necks_sorted c n)
  by_cases h : i + 1 < (necks c n).length
  · right
    refine ⟨(necks c n)[i + 1], List.getElem_mem h, srt i (i + 1) hi h (by omega), fun z hz hlt => ?_⟩
    obtain ⟨j, hj, rfl⟩ := List.getElem_of_mem hz
    rcases Nat.lt_trichotomy (i + 1) j with q | q | q
    · exact lexlt_as (srt (i + 1) j h hj q)
    · subst q; exact lexlt_irrefl _
    · exfalso
      by_cases e : i = j
      · subst e; rw [lexlt_irrefl] at hlt; cases hlt
      · have := lexlt_as (srt j i hj hi (by omega)); rw [hlt] at this; cases this
  · left
    refine ⟨fun z hz => ?_, by rw [rk_at hi]; omega⟩
    obtain ⟨j, hj, rfl⟩ := List.getElem_of_mem hz
    by_cases e : i = j
    · subst e; exact lexlt_irrefl _
    · exact lexlt_as (srt j i hj hi (by omega))
theorem ahd_or {x : List Int} (hx : x ∈ necks c n) : ((∀ z ∈ necks c n, lexlt z x = false) ∧ rk c n x = 0) ∨ ∃ y, Ahd c n x y := by
  obtain ⟨i, hi, rfl⟩ := List.getElem_of_mem hx
  have srt := List.pairwise_iff_getElem.mp (necks_sorted c n)
  by_cases h : 0 < i
  · right
    have h' : i - 1 < (necks c n).length := by omega
    refine ⟨(necks c n)[i - 1], List.getElem_mem h', srt (i - 1) i h' hi (by omega), fun z hz hlt => ?_⟩
    obtain ⟨j, hj, rfl⟩ := List.getElem_of_mem hz
    rcases Nat.lt_trichotomy j (i - 1) with q | q | q
    · exact lexlt_as (srt j (i - 1) hj h' q)
    · subst q; exact lexlt_irrefl _
    · exfalso
      by_cases e : i = j
      · subst e; rw [lexlt_irrefl] at hlt; cases hlt
      · have := lexlt_as (srt i j hi hj (by omega)); rw [hlt] at this; cases this
  · left
    refine ⟨fun z hz => ?_, by rw [rk_at hi]; omega⟩
    obtain ⟨j, hj, rfl⟩ := List.getElem_of_mem hz
    by_cases e : i = j
    · subst e; exact lexlt_irrefl _
    · exact lexlt_as (srt i j hi hj (by omega))
theorem const_nec {v : Int} (h1 : 1 ≤ n) (h0 : 0 ≤ v) (hv : v < c) : List.replicate n v ∈ necks c n := (mem_necks h1).mpr ⟨wd_of (by simp) fun x hx => by
  have := List.eq_of_mem_replicate hx
  omega, fun j hj ⟨k, k1, _, k3⟩ => by
  have e : ∀ i, g (List.replicate n v) (i % n) = v := fun i => g_rep (Nat.mod_lt _ (by omega))
  have k3' : g (List.replicate n v) ((k + j) % n) < g (List.replicate n v) k := k3
  rw [e, g_rep k1] at k3'
  omega⟩
theorem last_iff {x : List Int} (h1 : 1 ≤ n) (hc : 1 ≤ c) (hx : Wd c n x) : (∀ z ∈ necks c n, lexlt x z = false) ↔ ∀ v ∈ x, v = (c : Int) - 1 := by
  constructor
  · intro h
    have hm := const_nec (c := c) (v := (c : Int) - 1) h1 (by omega) (by omega)
    have := h _ hm
    rw [not_lt_iff hx.len (by simp)] at this
    have e : x = List.replicate n ((c : Int) - 1) := by
      refine eq_of hx.len (by simp) this ?_
      rintro ⟨k, k1, _, k3⟩
      rw [g_rep k1] at k3
      have := (hx.lt k k1).2
      omega
    rw [e]
    intro v hv
    exact List.eq_of_mem_replicate hv
  · intro h z hz
    have hz2 := (mem_necks h1).mp hz
    rw [not_lt_iff hx.len hz2.1.len]
    rintro ⟨k, k1, _, k3⟩
    have := h _ (g_mem (show k < x.length by rw [hx.len]; exact k1))
    have := (hz2.1.lt k k1).2
    omega
theorem first_iff {x : List Int} (h1 : 1 ≤ n) (hc : 1 ≤ c) (hx : Wd c n x) : (∀ z ∈ necks c n, lexlt z x = false) ↔ ∀ v ∈ x, v = 0 := by
  constructor
  · intro h
    have hm := const_nec (c := c) (v := 0) h1 (by omega) (by omega)
    have := h _ hm
    rw [not_lt_iff (by simp) hx.len] at this
    have e : x = List.replicate n 0 := by
      refine eq_of hx.len (by simp) ?_ this
      rintro ⟨k, k1, _, k3⟩
      rw [g_rep k1] at k3
      have := (hx.lt k k1).1
      omega
    rw [e]
    intro v hv
    exact List.eq_of_mem_replicate hv
  · intro h z hz
    have hz2 := (mem_necks h1).mp hz
    rw [not_lt_iff hz2.1.len hx.len]
    rintro ⟨k, k1, _, k3⟩
    have := h _ (g_mem (show k < x.length by rw [hx.len]; exact k1))
    have := (hz2.1.lt k k1).1
    omega
theorem least_mem {r : List Int} {v : Int} (h : r ≠ []) : v ∈ leastR r ↔ v ∈ r := by rw [← leastT_turn h]; exact turnOf_mem
theorem min_last {r : List Int} (h1 : 1 ≤ n) (hc : 1 ≤ c) (hr : Wd c n r) : (∀ z ∈ necks c n, lexlt (leastR r) z = false) ↔ minI r = (c : Int) - 1 := by
  have hne := wd_ne hr h1
  rw [last_iff h1 hc (wd_least hr h1)]
  obtain ⟨m1, m2⟩ := minI_ex hne
  constructor
  · intro h
    exact h _ ((least_mem hne).mpr m1)
  · intro h v hv
    have hv := (least_mem hne).mp hv
    have := m2 v hv
    have := (hr.mem v hv).2
    omega
theorem max_first {r : List Int} (h1 : 1 ≤ n) (hc : 1 ≤ c) (hr : Wd c n r) : (∀ z ∈ necks c n, lexlt z (leastR r) = false) ↔ maxI r = 0 := by
  have hne := wd_ne hr h1
  rw [first_iff h1 hc (wd_least hr h1)]
  obtain ⟨m1, m2⟩ := maxI_ex hne
  constructor
  · intro h
    exact h _ ((least_mem hne).mpr m1)
  · intro h v hv
    have hv := (least_mem hne).mp hv
    have := m2 v hv
    have := (hr.mem v hv).1
    omega
theorem neck_least {x : List Int} (h1 : 1 ≤ n) (hx : x ∈ necks c n) : leastR x = x := ((nec_iff ((mem_necks h1).mp hx).1.len h1).mpr ((mem_necks h1).mp hx).2).symm
theorem num_neck {x : List Int} (h1 : 1 ≤ n) (h2 : n ≤ 200) (hx : x ∈ necks c n) : numberN c x = (rk c n x : Nat) := by
  rw [num_rk h1 h2 ((mem_necks h1).mp hx).1, neck_least h1 hx]
theorem num_turn {x : List Int} {b : Int} (h1 : 1 ≤ n) (h2 : n ≤ 200) (hx : Wd c n x) : numberN c (turnOf x b) = numberN c x := by
  rw [num_rk h1 h2 hx.turn, num_rk h1 h2 hx, leastR_turn (wd_ne hx h1)]
/-- each number is one's -/
theorem by_number {k : Int} (h1 : 1 ≤ n) (h2 : n ≤ 200) (h0 : 0 ≤ k) (hk : k < ringsN c n) : ∃ (m : Nat) (x : List Int), (m : Int) = k ∧ x ∈ necks c n ∧ rk c n x = m := by
  rw [← necks_len h1 h2] at hk
  have : k.toNat < (necks c n).length := by omega
  exact ⟨k.toNat, (necks c n)[k.toNat], by omega, List.getElem_mem this, rk_at this⟩
theorem rings_pos (h1 : 1 ≤ n) (h2 : n ≤ 200) (hc : 1 ≤ c) : 1 ≤ ringsN c n := by
  rw [← necks_len h1 h2]
  have := List.length_pos_of_mem (zeros_nec (c := c) h1 hc)
  omega
theorem beads_of {x : List Int} {m : Nat} (h : Wd c n x) (h1 : 1 ≤ n) (hm : n ≤ m) : Beads c m x := ⟨wd_ne h h1, by rw [h.len]; exact hm, h.mem⟩
end
end NK
set_option Elab.async false
set_option linter.all false
set_option maxRecDepth 100000
set_option maxHeartbeats 2000000
/-! a law whose own def looks at what runs around it (str of a list): its body is run as the top calls it -/
namespace Ab
open PySem PySem.Spec PyProof.Rows L2
/-- a def's promise at the top's own call alone -/
structure TopOk (P : Program) (w : World) (K : PySem.W.Frag) (mg : Str → Option Value) (base : Heap) (k : Nat) (f : Addr) (fd : FuncData) (ps : List Str) (sp : Sp) : Prop where
  run : ∀ (s : Shared) (H : Hp) (args : Args) (us : List Value) (vs : List V) (Q : VK), Room k callerA → Env0 P w K mg base callerA [] s H → BindsTo s fd args (ps.zip us) → Vals vs us → sp vs H Q (fun _ _ _ => False) →
    codeAny (model P w) callerA (.call (.ref f) args) (L2.CR CX0 [] P w H s Q (fun _ _ _ => False)) s
section
variable {P : Program} {w : World} {K : PySem.W.Frag} {mg : Str → Option Value} {base : Heap}
theorem top_of {x qual : Str} {st : Stmt} {f : Addr} {fd : FuncData} {N ps : List Str} {k : Nat} {sp : Sp} (F : Fun K x qual st f fd) (S : FnScope N ps (defScope st)) (len : ∀ vs H Q E, sp vs H Q E → vs.length = ps.length)
    (body : ∀ (cdv : Value) (s : Shared) (H : Hp) (vs : List V) (Q : VK), Room k (callerA.deeper (envOfC qual (defScope st) s.heap.objs.size f cdv)) → sp vs H Q (fun _ _ _ => False) →
      ∃ t, PSs (cxOf CX0 P w K mg base N qual (defScope st) f cdv callerA [] s H (fun _ _ _ => False)).nox (defBody st) t ∧ t { nx := fun _ H' => Q .non H', rt := Q } (start N vs) H) : TopOk P w K mg base (k + 1) f fd ps sp := by
  obtain ⟨oc, od, kV, doc, pm, an, cdv, ct, osl, rfl, lk, hcd⟩ := F.ex
  refine ⟨fun s H args us vs Q hr e0 hb r hsp => ?_⟩
  have KX : K.In s.heap := e0.mod.kin.keeps fun b o e => (e0.bs b o e).1
  have hkind : ∀ y ∈ ps.zip us, (defScope st).names.lookup y.1 = some .local ∨ ((defScope st).names.lookup y.1 = some .cell ∧ ((cellsFrom (s.heap.objs.size + 1) (defScope st).names []).lookup y.1).isSome = true) := fun y hy =>
    (S.par y.1 (List.of_mem_zip hy).1).imp_right fun q => ⟨q, PySem.W.cellsFrom_some _ _ _ (.inl q)⟩
  refine codeAny_call_function hr.depth (KX _ _ lk) rfl S.co S.gen rfl (PySem.W.codeRec_of KX hcd) (hb _ _ _ _ (wpAny_newFunctionEnv_cells S.kind hkind fun env he s1 y => ?_))
  subst he
  obtain ⟨t, ht, hq⟩ := body cdv s H vs Q (hr.deeper _) hsp
  refine ⟨(e0.mod.nolimit.keeps fun b o e => (e0.bs b o e).1).keeps y.toInCall.keep, codeAny_func (wpAny_mono (ht.nox.run [] s1 (start N vs) H _ (inv_start S hr.hd e0 (len _ _ _ _ hsp) r y) hq) (fun fl s' hs => ?_) fun e s' hs => hs)⟩
  cases fl with
  | ret u => obtain ⟨v, σ', H', J, rv, q⟩ := hs; exact ⟨v, H', J.os, J.bare, J.base, J.hok, rv, q⟩
  | next => obtain ⟨σ', H', J, q⟩ := hs; exact ⟨V.non, H', J.os, J.bare, J.base, J.hok, rfl, q⟩
  | brk => obtain ⟨_, _, _, q⟩ := hs; exact False.elim q
  | cont => obtain ⟨_, _, _, q⟩ := hs; exact False.elim q
theorem topA {x qual : Str} {st : Stmt} {f : Addr} {fd : FuncData} {N ps : List Str} {k : Nat} {R : List AV → AV → Prop} (F : Fun K x qual st f fd) (S : FnScope N ps (defScope st)) (len : ∀ as a, R as a → as.length = ps.length)
    (body : ∀ (cdv : Value) (s : Shared) (H : Hp), Room k (callerA.deeper (envOfC qual (defScope st) s.heap.objs.size f cdv)) → ∀ as a, R as a →
      CSs (cxOf CX0 P w K mg base N qual (defScope st) f cdv callerA [] s H (fun _ _ _ => False)).nox (defBody st) (startT N as) { nx := fun _ => a = .non, rt := fun c => c = a }) : TopOk P w K mg base (k + 1) f fd ps (spA R) := by
  refine top_of F S (fun vs H Q E ⟨as, a, B, hR, _, hr, _⟩ => by rw [hr.length]; exact len as a hR) fun cdv s H vs Q hr ⟨as, a, B, hR, g, hv, q⟩ => ⟨_, body cdv s H hr as a hR, B, H, B, sta_start g hv, ?_⟩
  refine ⟨fun τ B' σ' H' e _ S' => ?_, fun c v B' H' e x hv => ?_, fun _ _ _ _ _ _ e => e.elim, fun _ _ _ _ e => e.elim, fun _ _ _ _ e => e.elim⟩
  · have e' : a = .non := e
    subst e'
    exact q .non B' H' S'.ext rfl
  · have e' : c = a := e
    subst e'
    exact q v B' H' x hv
end
/-- the law's call, where its def's promise holds at the top's own call -/
theorem law_top {P : Program} {w : World} {K : PySem.W.Frag} {mg mb : Str → Option Value} {k : Nat} {fa a : Addr} {fd : FuncData} {x : Str} {sp : Sp} {s₁ : Shared} {vs : List Value} {ns : List Int}
    (KX : K.In s₁.heap) (hns : s₁.heap.Ns mainGlobals mg) (hb : s₁.heap.Ns builtinsNs mb) (hbb : ∀ x : Str, x ≠ "__name__" → mb x = bootBuiltins x) (hlim : s₁.heap.NoLimit) (hg : s₁.gens = #[])
    (ha : s₁.heap.get? a = some { cls := .type "list", data := .seq vs.toArray }) (hi : IntsAre vs ns) (hl : ns.length ≤ sizeLine) (hr : Room k callerA)
    (F : ∀ base : Heap, K.In base → base.Ns mainGlobals mg → TopOk P w K mg base k fa fd [x] sp) (hbind : ∀ (s : Shared) (u : Value), BindsTo s fd ⟨[u], []⟩ [(x, u)])
    (hsp : ∀ H : Hp, Only H → SqL K H a (ns.map V.int) → sp [.ref a] H (fun v _ => v = .bl true) fun _ _ _ => False) :
    codeAny (model P w) callerA (.call (.ref fa) ⟨[.ref a], []⟩) (fun r s' => r = .ok (.ret (.bool true)) ∧ OldK s₁.heap s'.heap ∧ s'.os = s₁.os ∧ AllBare s'.gens) s₁ := by
  have core : ∀ H : Hp, Only H → SqL K H a (ns.map V.int) → HOk P w H s₁.heap → (∀ b, H b ≠ none → b = a) → (H a ≠ none → K.lookup a = none) →
      codeAny (model P w) callerA (.call (.ref fa) ⟨[.ref a], []⟩) (fun r s' => r = .ok (.ret (.bool true)) ∧ OldK s₁.heap s'.heap ∧ s'.os = s₁.os ∧ AllBare s'.gens) s₁ := by
    intro H hO hS hok hA hK
    have free : ∀ {b : Addr}, (b = a → H a = none) → H b = none := fun {b} h => Classical.byContradiction fun z => z (by have e := hA b z; rw [e]; exact h e)
    have nsK : ∀ {b : Addr} {m : Str → Option Value}, s₁.heap.Ns b m → (hidT s₁.heap H).Ns b m := fun {b m} ⟨o, es, ep, e, d, r⟩ => ⟨o, es, ep, hidT_get e (free fun z => by
      subst z
      rw [ha] at e; cases e
      have d' : Data.seq vs.toArray _ = Data.dict es ep := d
      cases d'), d, r⟩
    have hKb : K.In (hidT s₁.heap H) := fun b o e => hidT_get (KX b o e) (free fun z => Classical.byContradiction fun q => by subst z; rw [hK q] at e; cases e)
    have hM : Mod K mg (hidT s₁.heap H) := ⟨hKb, nsK hns, ⟨mb, nsK hb, hbb⟩, let ⟨mc, h1, h2⟩ := hlim; ⟨mc, nsK h1, h2⟩⟩
    have e0 : Env0 P w K mg (hidT s₁.heap H) callerA [] s₁ H := ⟨rfl, hM, fun b o e => of_hidT e, Nat.le_of_eq (hidT_size _ _), trivial, fun b hb => absurd (show b ∈ ([] : List Addr) from hb) (by simp), hok, .of_eq hg⟩
    refine codeAny_mono ((F _ hKb (nsK hns)).run s₁ H ⟨[.ref a], []⟩ [.ref a] [.ref a] _ hr e0 (hbind s₁ (.ref a)) (.cons rfl .nil) (hsp H hO hS)) fun r s' h => ?_
    cases r with
    | error e => exact False.elim h
    | ok fl =>
      cases fl with
      | next => exact False.elim h
      | brk => exact False.elim h
      | cont => exact False.elim h
      | ret u =>
        obtain ⟨v, H', os, bare, un, hok', r', q⟩ := h
        have q' : v = .bl true := q
        subst q'
        obtain rfl : u = Value.bool true := r'
        refine ⟨rfl, OldK.of_keep fun b o e => ?_, os, bare⟩
        rcases hO b with z | ⟨ob, xs, z⟩
        · exact un.keep b o e z (fun z => absurd (show b ∈ ([] : List Addr) from z) (by simp)) (by simp)
        · obtain ⟨e1, _⟩ := hok b _ z
          obtain ⟨e2, _⟩ := hok' b _ (un.frzs b ob _ z)
          rw [e] at e1; cases e1
          exact e2
  cases hk : K.lookup a with
  | some o =>
    have e := KX a o hk
    rw [ha] at e
    cases e
    exact core (fun _ => none) (fun _ => .inl rfl) (.inr ⟨_, vs.toArray, _, hk, rfl, rfl, rfl, by rw [List.size_toArray, hi.length]; exact hl, by simpa using vals_ints hi⟩) (fun b u z => by cases (show (none : Option HO) = some u from z)) (fun b z => absurd rfl z) fun z => absurd rfl z
  | none =>
    have at_ : ∀ {b : Addr} {u : HO}, upd (fun _ => none) a (.frz { cls := .type "list", data := .seq vs.toArray } (.lst (ns.map V.int))) b = some u → b = a ∧ u = .frz { cls := .type "list", data := .seq vs.toArray } (.lst (ns.map V.int)) := fun {b u} z => by
      by_cases hb : b = a
      · subst hb; rw [upd_same] at z; exact ⟨rfl, (Option.some.inj z).symm⟩
      · rw [upd_ne hb] at z; cases z
    refine core (upd (fun _ => none) a (.frz { cls := .type "list", data := .seq vs.toArray } (.lst (ns.map V.int)))) (fun b => ?_) (.inl (.inr ⟨_, upd_same⟩)) (fun b u z => ?_) (fun b z => ?_) fun _ => hk
    · by_cases hb : b = a
      · subst hb; exact .inr ⟨_, _, upd_same⟩
      · exact .inl (upd_ne hb)
    · obtain ⟨rfl, rfl⟩ := at_ z
      exact ⟨ha, by rw [List.length_map]; exact hl, vs, _, vals_ints hi, ha⟩
    · obtain ⟨u, hu⟩ := Option.ne_none_iff_exists'.mp z
      exact (at_ hu).1
theorem walk_top {l : PySem.W.OpenLaw} {n k : Nat} {q : Program} {loose : List Str} {XP : (Str → Option Value) → Heap → Prop} {YP : World → Heap → Prop} {d : DefRec} {x : Str}
    (hn : l.most = some n) (hn2 : n ≤ sizeLine) (hdf : d.params.defaults = []) (hr : Room k callerA)
    (F : ∀ (w : World) (mg : Str → Option Value) (fa : Addr) (h : Heap), YP w h → h.Ns mainGlobals mg → mg d.name = some (.ref fa) →
      ∃ (K : PySem.W.Frag) (fd : FuncData) (sp : Sp), K.In h ∧ (∀ (s : Shared) (u : Value), BindsTo s fd ⟨[u], []⟩ [(x, u)]) ∧
        (∀ (H : Hp) (a : Addr) (ns : List Int), ns.length ≤ n → (∀ z ∈ ns, Builtin.Int.intBits z ≤ 1048576) → Only H → SqL K H a (ns.map V.int) → sp [.ref a] H (fun v _ => v = .bl true) fun _ _ _ => False) ∧
        ∀ base : Heap, K.In base → base.Ns mainGlobals mg → TopOk l.prog w K mg base k fa fd [x] sp) :
    PySem.W.WalkO q loose XP YP l.row.toRowW d [] (fun f vs => PySem.call f vs) := by
  refine Att.attach_callB hn hdf fun w s₀ s₁ mg mb fa o pm cd doc a vs ns G Y ho hd hcd hmg hobj hints hlen hbits hg => ?_
  obtain ⟨K, fd, sp, KX, hb, hsp, hF⟩ := F w mg fa _ Y G.T.g hmg
  exact law_top KX G.T.g G.T.b G.T.builtins G.T.nolimit hg hobj hints (Nat.le_trans hlen hn2) hr hF hb (fun H hO hS => hsp H a ns hlen hbits hO hS)
end Ab
set_option Elab.async false
set_option linter.all false
set_option maxRecDepth 100000
set_option maxHeartbeats 2000000
/-! the text of a row; dicts with texts as keys -/
namespace Ab
open PySem L2
section
open PySem.Spec PyProof.Rows
variable {X : Cx} {τ : Tau} {e e1 e2 : Expr} {p pos : Pos}
def rStrR (K : PySem.W.Frag) : List V → Hp → VK → Prop := fun xs H Q => ∃ (a : Addr) (d : PyData), xs = [.ref a] ∧ Dp K H (.ref a) d ∧ d.showable = true ∧ d.hasDict = false ∧ d.depth ≤ 20 ∧ d.shown.length ≤ sizeLine ∧ Q (.str d.shown) H
theorem call_str_row (hg : X.A.guards = some []) (hu : X.A.units + 64 < cLine) : CallR X (.type "str") (rStrR X.K) := by
  intro pins s σ H xs us Q I r h
  obtain ⟨a, d, rfl, hd, h1, h2, h3, h4, q⟩ := h
  obtain ⟨u, rfl, r1⟩ := vals1 r
  obtain ⟨bs, rd⟩ := Dp.reads I d _ _ hd r1
  cases r1
  exact str_of_reads rd h1 (PyData.noDict_hsm h2) hg (by omega) (fun _ _ e => e) (fun h' u tk hk => ⟨.str d.shown, H, I.kept hk, ⟨u, rfl⟩, q⟩) h4
theorem noDict_il (r : List Int) : (dI r).hasDict = false := by
  have h : ∀ r : List Int, PyData.hasDictAll (r.map PyData.int) = false := fun r => by
    induction r with
    | nil => simp only [List.map_nil, PyData.hasDictAll]
    | cons z r ih => simp only [List.map_cons, PyData.hasDictAll, ih, PyData.hasDict]; rfl
  simp only [dI, PyData.hasDict, h]
theorem depth_row (r : List Int) : (dI r).depth ≤ 20 := by
  have h : ∀ r : List Int, PyData.depthAll (r.map PyData.int) ≤ 10 := fun r => by
    induction r with
    | nil => simp only [List.map_nil, PyData.depthAll]; omega
    | cons z r ih => simp only [List.map_cons, PyData.depthAll, PyData.depth]; omega
  have := h r
  simp only [dI, PyData.depth]
  omega
theorem c_strR {r : List Int} (hm : X.mg "str" = none) (hA : X.A.guards = some []) (hu : X.A.units + 64 < cLine) (h : CE X e τ (.il r)) (h1 : (dI r).showable = true) (h2 : (dI r).shown.length ≤ sizeLine)
    (hg : Gl X "str" := by rfl) (he : starEach [e] X.env = (false, eval e X.env) :: starEach [] X.env := by rfl) (hpl : (backTo pos (starEach [] X.env)).any (·.1) = false := by rfl) :
    CE X (.Call (.Name "str" p) [e] [] pos) τ (.str (dI r).shown) :=
  c_typ (call_str_row hA hu) hm PyProof.Rows.boot_str (ca_cons h ca_nil he) (fun vs B H Q g hr q => by
    obtain ⟨v, rfl, hv⟩ := reps1 hr
    obtain ⟨a, xs, rfl, k1, k2⟩ := id hv
    exact ⟨a, dI r, rfl, dp_gr g _ _ (isd_il (K := X.K) r B _ hv), h1, noDict_il r, depth_row r, h2, q _ B H (.refl g) rfl⟩) (hg := hg) (he := he) (hpl := hpl)
end
section
variable {X : Cx} {τ : Tau} {e e1 e2 : Expr} {p pos : Pos}
/-- {} -/
theorem cr_dic0 : CR X (.Dict [] [] pos) τ (.dic []) [] := cr_of pe_dnewK fun F0 F B σ H Q S q p hp => q (.ref p) [p] B (upd H p (.dK [])) (.newO S.gr hp)
  ⟨⟨[p], [], rfl, .dic (vs := []) upd_same .nil, .nil⟩, by simp, fun x hx => by simp at hx; subst hx; exact ⟨hp, S.gr.back hp⟩⟩
/-- what a slot's own dict is, and its change -/
theorem Sta.dic {F0 F B H : Hp} {σ : St} {i : Nat} {kvs : List (Key × AV)} {ls : List (List AV)} (S : Sta F0 F B σ H τ) (hi : τ[i]? = some (some (.ow (.dic kvs) ls))) :
    ∃ r vs, σ[i]? = some (some (.ref r)) ∧ H r = some (.dK ((kvs.map Prod.fst).zip vs)) ∧ Reps B vs (kvs.map Prod.snd) ∧ ∀ kvs' vs', Reps B vs' (kvs'.map Prod.snd) → Sta F0 F B σ (upd H r (.dK ((kvs'.map Prod.fst).zip vs'))) (τ.set i (some (.ow (.dic kvs') []))) := by
  obtain ⟨fp, g1, g2⟩ := S.ow
  obtain ⟨v, k1, k2⟩ := g1 i _ ls hi
  obtain ⟨rs, ps, e, r, pr⟩ := k2.ex
  cases r with
  | @dic r _ vs e1 h1 =>
    refine ⟨r, vs, k1, e1, h1, fun kvs' vs' hr => ?_⟩
    have hq : r ∈ fp i := by rw [e]; simp
    have hqq := k2.nf r hq
    have back : ∀ (j : Nat) s l, (τ.set i (some (.ow (.dic kvs') [])))[j]? = some (some (.ow s l)) → ∃ s l, τ[j]? = some (some (.ow s l)) := fun j s l q => by
      rcases set_was q with ⟨rfl, hl, e⟩ | ⟨hj, q⟩
      · exact ⟨_, _, hi⟩
      · exact ⟨_, _, q⟩
    refine ⟨S.ext.chg hqq.1 hqq.2, by rw [List.length_set]; exact S.len, fun j a q => ?_, fp, fun j s l q' => ?_, fun j k' s1 l1 s2 l2 x hjk q1 q2 => ?_⟩
    · rcases set_was q with ⟨rfl, hl, e⟩ | ⟨hj, q⟩
      · cases e
      · exact S.val j a q
    · rcases set_was q' with ⟨rfl, hl, e'⟩ | ⟨hj, q'⟩
      · cases e'
        exact ⟨_, k1, ⟨[r], [], e, .dic upd_same hr, .nil⟩, k2.nd, k2.nf⟩
      · obtain ⟨w, m1, m2⟩ := g1 j s l q'
        refine ⟨w, m1, m2.keep (.refl _) (fun x hx => (m2.nf x hx).2) fun x hx u hu => ?_⟩
        rw [upd_ne fun z => ?_]
        · exact hu
        · subst z
          exact g2 i j _ _ _ _ x hj hi q' hq hx
    · obtain ⟨s1, l1, b1⟩ := back j _ _ q1
      obtain ⟨s2, l2, b2⟩ := back k' _ _ q2
      exact g2 j k' _ _ _ _ x hjk b1 b2
theorem valV_zip {ks : List Key} : ∀ {vs : List V} {k : Key}, k ∉ ks → valV (ks.zip vs) k = none := by
  induction ks with
  | nil => intro vs k _; rfl
  | cons c ks ih =>
    intro vs k h
    cases vs with
    | nil => rfl
    | cons v vs =>
      rw [List.zip_cons_cons, valV_neg (fun z => h (by rw [← z]; exact List.mem_cons_self)), ih fun z => h (List.mem_cons_of_mem _ z)]
theorem kV_text (x : Str) : V.str x = kV (.inr x) := rfl
/-- d[k] = v at a new key, d a slot's own dict -/
theorem cs_dput (i : Nat) {x k : Str} {p' p2 : Pos} {a : AV} {kvs : List (Key × AV)} {ls : List (List AV)} {N : AE} (hu : X.A.units + 1 < cLine) (h1 : CE X e1 τ (.str k)) (h2 : CE X e2 τ a) (hk : (.inr k : Key) ∉ kvs.map Prod.fst) (hz : kvs.length < 1000000)
    (q : N.nx (τ.set i (some (.ow (.dic (kvs ++ [(.inr k, a)])) []))))
    (hN : X.N[i]? = some x := by rfl) (hv : Vis X.env.scope x := by first | exact Or.inl rfl | exact Or.inr (Or.inl rfl) | exact Or.inr (Or.inr rfl)) (ht : τ[i]? = some (some (.ow (.dic kvs) ls)) := by rfl) (hd : (x == ("__debug__" : Str)) = false := by decide) (hcd : (x == ("__classdict__" : Str)) = false := by decide)
    (hs : swapsWith e2 (some (.Subscript (.Name x p') e1 p2)) pos.line X.env = pure false := by rfl) :
    CS X (.Assign [.Subscript (.Name x p') e1 p2] e2 pos) τ N :=
  cs_of (ps_dput hu (pe_var hN hv hd hcd) h1 h2 hs) fun F0 F B D σ H S L => by
    refine ⟨F0, F, B, S, fun v B1 H1 x1 hv1 => ?_⟩
    have S1 := S.step x1
    obtain ⟨r, vs, g1, _⟩ := S1.dic ht
    refine ⟨.ref r, g1, F0, F, B1, S1, fun y B2 H2 x2 hy => ?_⟩
    have S2 := S1.step x2
    obtain ⟨r', vs', m1, m2, m3, m4⟩ := S2.dic ht
    rw [g1] at m1
    cases m1
    have ey : y = V.str k := hy
    have l1 : vs'.length = (kvs.map Prod.fst).length := by rw [m3.length]; simp
    refine ⟨r, _, rfl, by rw [ey, kV_text]; exact DPut.k m2 (by rw [List.length_zip, l1, List.length_map, Nat.min_self]; exact Nat.lt_of_lt_of_le hz (by decide)), ?_⟩
    rw [putK_new _ (valV_zip hk)]
    have e : (kvs.map Prod.fst).zip vs' ++ [(Sum.inr k, v)] = ((kvs ++ [((.inr k : Key), a)]).map Prod.fst).zip (vs' ++ [v]) := by
      rw [List.map_append, List.zip_append l1.symm]; rfl
    rw [e]
    refine L.nx _ B2 _ _ q (x1.b.trans x2.b) (m4 _ _ ?_)
    rw [List.map_append]
    exact m3.append (.cons (a.mono x2.b hv1) .nil)
theorem valV_zipA {B : Hp} : ∀ {kvs : List (Key × AV)} {vs : List V} {k : Key} {a : AV}, Reps B vs (kvs.map Prod.snd) → (kvs.find? fun kv => decide (kv.1 = k)).map Prod.snd = some a → ∃ v, valV ((kvs.map Prod.fst).zip vs) k = some v ∧ a.p B v
  | [], _, _, _, _, h => by cases h
  | (c, b) :: kvs, vs, k, a, r, h => by
    cases r with
    | cons q t =>
      rename_i v vs
      rw [List.map_cons, List.zip_cons_cons]
      by_cases e : c = k
      · rw [valV_pos e]
        rw [List.find?_cons_of_pos (by simpa using e)] at h
        cases h
        exact ⟨v, rfl, q⟩
      · rw [valV_neg e]
        rw [List.find?_cons_of_neg (by simpa using e)] at h
        exact valV_zipA t h
/-- d[k] -/
theorem c_dget {k : Str} {a : AV} {kvs : List (Key × AV)} (hu : X.A.units + 1 < cLine) (h1 : CE X e1 τ (.dic kvs)) (h2 : CE X e2 τ (.str k)) (hk : (kvs.find? fun kv => decide (kv.1 = .inr k)).map Prod.snd = some a)
    (hs : NoSl e2 := by intros; rfl) : CE X (.Subscript e1 e2 pos) τ a :=
  ce_of (pe_dget hu h1 h2 hs) fun F0 F B σ H Q S q => ⟨F0, F, B, S, fun x B1 H1 x1 ⟨r, vs, e1, m1, m2⟩ => ⟨F0, F, B1, S.step x1, fun y B2 H2 x2 hy => by
    have ey : y = V.str k := hy
    obtain ⟨v, w1, w2⟩ := valV_zipA (m2.mono x2.b) hk
    exact ⟨r, v, e1, by rw [ey, kV_text, ← w1]; exact DGet.k (x2.s _ _ (x2.b _ _ m1)), q v B2 H2 (x1.trans x2) w2⟩⟩⟩
end
end Ab
set_option Elab.async false
set_option linter.all false
set_option maxRecDepth 100000
set_option maxHeartbeats 1000000
/-! what raises: expressions, statements, defs; a try around it -/
namespace Ab
open PySem L2
/-- the expression raises an exception of the class at C: W, what is wished of it -/
def tRE (W : WX) (τ : Tau) (C : Addr) : TE := fun σ H _ => ∃ F0 F B, Sta F0 F B σ H τ ∧ ∀ B' H', Ext B H B' H' → W (.ref C) none σ H'
def RE (X : Cx) (W : WX) (e : Expr) (τ : Tau) (C : Addr) : Prop := PE X e (tRE W τ C)
/-- the statement, the block does; n, how many slots there are -/
def tRS (W : WX) (n : Nat) (τ : Tau) (C : Addr) : TS := fun _ σ H => ∃ F0 F B, Sta F0 F B σ H τ ∧ ∀ σ' B' H', σ'.length = n → Ext F0 F B' H' → W (.ref C) none σ' H'
def RS (X : Cx) (W : WX) (n : Nat) (st : Stmt) (τ : Tau) (C : Addr) : Prop := PS X st (tRS W n τ C)
def RSs (X : Cx) (W : WX) (n : Nat) (sts : List Stmt) (τ : Tau) (C : Addr) : Prop := PSs X sts (tRS W n τ C)
section
variable {X : Cx} {W : WX} {n : Nat} {st : Stmt} {sts rest : List Stmt} {e e1 e2 e3 : Expr} {es : List Expr} {τ τ1 : Tau} {C : Addr} {a b : AV} {as l : List AV} {pos p p2 : Pos}
theorem re_if {b : Bool} (h : CT X e1 τ b) (h1 : b = true → RE X W e2 τ C) (h2 : b = false → RE X W e3 τ C) : RE X W (.IfExp e1 e2 e3 pos) τ C := by
  cases b with
  | true => exact pe_weak (pe_ifExp h (h1 rfl) pe_noway) fun σ H Q ⟨F0, F, B, S, q⟩ => ⟨F0, F, B, S, fun B1 H1 x1 => iteT ⟨F0, F, B1, S.step x1, fun B2 H2 x2 => q B2 H2 (x1.trans x2)⟩⟩
  | false => exact pe_weak (pe_ifExp h pe_noway (h2 rfl)) fun σ H Q ⟨F0, F, B, S, q⟩ => ⟨F0, F, B, S, fun B1 H1 x1 => iteF ⟨F0, F, B1, S.step x1, fun B2 H2 x2 => q B2 H2 (x1.trans x2)⟩⟩
theorem rs_expr (h : RE X W e τ C) (hl : τ.length = n := by rfl) (hs : swapsWith e none pos.line X.env = pure false := by rfl) : RS X W n (.Expr e pos) τ C :=
  ps_weak (ps_expr h hs) fun D σ H ⟨F0, F, B, S, q⟩ => ⟨F0, F, B, S, fun B' H' x => q σ B' H' (S.len.trans hl) (S.ext.trans x)⟩
theorem rs_ret (h : RE X W e τ C) (hl : τ.length = n := by rfl) : RS X W n (.Return (some e) pos) τ C :=
  ps_weak (ps_ret h) fun D σ H ⟨F0, F, B, S, q⟩ => ⟨F0, F, B, S, fun B' H' x => q σ B' H' (S.len.trans hl) (S.ext.trans x)⟩
theorem rss_head (h : RS X W n st τ C) : RSs X W n (st :: rest) τ C := pss_weak (pss_cons h pss_never) fun D σ H q => q
theorem rss_cut (M : Tau → Prop) (h1 : CS X st τ { nx := M }) (h2 : ∀ τ', M τ' → RSs X W n rest τ' C) : RSs X W n (st :: rest) τ C := by
  refine pss_weak (pss_cons h1 (pss_any (ι := { τ' : Tau // M τ' }) (t := fun i => tRS W n i.1 C) fun i => h2 i.1 i.2)) fun D σ H ⟨F0, F, B, S, q⟩ => ?_
  exact ⟨F0, F, B, S, ⟨fun τ' B' σ' H' hm g S' => ⟨⟨τ', hm⟩, F0, F, B', S', q⟩, fun _ _ _ _ z => z.elim, fun _ _ _ _ _ _ z => z.elim, fun _ _ _ _ z => z.elim, fun _ _ _ _ z => z.elim⟩⟩
theorem rss_seq (h1 : CS X st τ { nx := fun τ' => τ' = τ1 }) (h2 : RSs X W n rest τ1 C) : RSs X W n (st :: rest) τ C := rss_cut _ h1 fun τ' e => e ▸ h2
theorem rs_if {c : Expr} {s1 s2 : List Stmt} {b : Bool} (h : CT X c τ b) (h1 : b = true → RSs X W n s1 τ C) (h2 : b = false → RSs X W n s2 τ C) : RS X W n (.If c s1 s2 pos) τ C := by
  cases b with
  | true => exact ps_weak (ps_if h (h1 rfl) pss_never) fun D σ H ⟨F0, F, B, S, q⟩ => ⟨F0, F, B, S, fun B' H' x => iteT ⟨F0, F, B', S.step x, q⟩⟩
  | false => exact ps_weak (ps_if h pss_never (h2 rfl)) fun D σ H ⟨F0, F, B, S, q⟩ => ⟨F0, F, B, S, fun B' H' x => iteF ⟨F0, F, B', S.step x, q⟩⟩
theorem rss_open (i : Nat) {α : Type} {P : α → Prop} {f : α → AV} (h : ∀ x, P x → RSs X W n sts (τ.set i (some (.val (f x)))) C) (ht : τ[i]? = some (some (.val (.ex P f))) := by rfl) : RSs X W n sts τ C := by
  refine pss_weak (pss_any (ι := { x : α // P x }) (t := fun x => tRS W n (τ.set i (some (.val (f x.1)))) C) fun x => h x.1 x.2) fun D σ H ⟨F0, F, B, S, q⟩ => ?_
  obtain ⟨v, h1, x, h2, h3⟩ := S.val i _ ht
  refine ⟨⟨x, h2⟩, F0, F, B, ?_, q⟩
  have S' := S.set (i := i) h3
  have e : σ.set i (some v) = σ := by
    apply List.ext_getElem?
    intro j
    by_cases hj : i = j
    · subst hj
      rw [List.getElem?_set_self (List.getElem?_eq_some_iff.mp h1).1, h1]
    · rw [List.getElem?_set_ne hj]
  rw [e] at S'
  exact S'
/-! ### raise X('..') -/
/-- what is known of an own class over ValueError -/
structure ExcK (K : PySem.W.Frag) (mg : Str → Option Value) (x : Str) (C : Addr) : Prop where
  g : mg x = some (.ref C)
  q : PySem.W.excIn K C He.veBase "ValueError.__new__" = true
  k : PySem.W.keepIn K (.ref C) = true
  s : PySem.W.subIn K (.ref C) (.type "BaseException") = some true
  t : PySem.W.typeIn K (.ref C) = some (.type "type")
theorem rs_raise {x m : Str} {j : Nat} {pos' : Pos} (c : ExcK X.K X.mg x C) (tk : Takes X W) (hl : τ.length = n := by rfl) (hc : X.calm = true := by rfl) (hg : Gl X x := by rfl) (hdb : (x == ("__debug__" : Str)) = false := by decide) : RS X W n (.Raise (some (.Call (.Name x p) [.Constant (.str m) j p2] [] pos)) none pos') τ C :=
  ps_weak (ps_raise hc tk (pmk_own PySem.F.excBase_ValueError c.q c.g c.k (raises_own c.s c.t) hg hdb)) fun D σ H ⟨F0, F, B, S, q⟩ => q σ B H (S.len.trans hl) S.ext
/-! ### defs that raise -/
def spX (R : List AV → Addr → Prop) : Sp := fun vs H _ E => ∃ as C B, R as C ∧ Gr B H ∧ Reps B vs as ∧ ∀ B' H', Ext B H B' H' → E (.ref C) none H'
structure HasX (P : Program) (w : World) (K : PySem.W.Frag) (mg : Str → Option Value) (base : Heap) (x : Str) (k : Nat) (sp : Sp) : Prop where
  ex : ∃ f fd ps, FnOk P w K mg base (L2.CX P w) k f fd ps sp ∧ mg x = some (.ref f) ∧ PySem.W.keepIn K (.ref f) = true ∧ Binds K fd ps []
theorem hasX_of {P : Program} {w : World} {K : PySem.W.Frag} {mg : Str → Option Value} {base : Heap} {x : Str} {k : Nat} {sp : Sp} {f : Addr} {fd : FuncData} {ps : List Str} (G : FnOk P w K mg base (L2.CX P w) k f fd ps sp) (hm : mg x = some (.ref f)) (kp : PySem.W.keepIn K (.ref f) = true) (b : Binds K fd ps []) : HasX P w K mg base x k sp := ⟨f, fd, ps, G, hm, kp, b⟩
theorem re_call {x : Str} {k : Nat} {R : List AV → Addr → Prop} (F : HasX X.prog X.w X.K X.mg X.base x k (spX R)) (tk : Takes X W) (hr : Room k X.A) (ha : CA X (e :: es) τ as) (hR : R as C)
    (hg : Gl X x := by rfl) (hdb : (x == ("__debug__" : Str)) = false := by decide) (he : starEach (e :: es) X.env = (false, eval e X.env) :: starEach es X.env := by rfl) (hpl : (backTo pos (starEach es X.env)).any (·.1) = false := by rfl) : RE X W (.Call (.Name x p) (e :: es) [] pos) τ C := by
  obtain ⟨f, fd, ps, G, hm, kp, hb⟩ := F.ex
  refine pe_weak (pe_callSD (E := WE W) G hr hg hm kp hb .nil (fun σ => passAt tk σ) ha hdb he hpl) fun σ H Q ⟨F0, F, B, S, q⟩ => ⟨F0, F, B, S, fun vs B1 H1 x1 h1 => ?_⟩
  exact ⟨as, C, B1, hR, x1.s, by rw [List.append_nil]; exact h1, fun B2 H2 x2 => q B2 H2 (x1.trans x2)⟩
end
section
variable {P : Program} {w : World} {K : PySem.W.Frag} {mg : Str → Option Value} {base : Heap}
theorem okR {x qual : Str} {st : Stmt} {f : Addr} {fd : FuncData} {N ps : List Str} {k : Nat} {R : List AV → Addr → Prop} (F : Fun K x qual st f fd) (S : FnScope N ps (defScope st)) (len : ∀ as C, R as C → as.length = ps.length)
    (body : ∀ (cdv : Value) (A : Around) (outer : List Env) (s : Shared) (H : Hp) (E : XK), Room k (A.deeper (PyProof.Rows.envOfC qual (defScope st) s.heap.objs.size f cdv)) →
      Takes (cxOf (L2.CX P w) P w K mg base N qual (defScope st) f cdv A outer s H E) (fun cls d _ H => E cls d H) → ∀ as C, R as C →
      RSs (cxOf (L2.CX P w) P w K mg base N qual (defScope st) f cdv A outer s H E) (fun cls d _ H => E cls d H) N.length (defBody st) (startT N as) C) : FnOk P w K mg base (L2.CX P w) (k + 1) f fd ps (spX R) := by
  refine F.okX S (fun vs H Q E ⟨as, C, B, hR, _, hr, _⟩ => by rw [hr.length]; exact len as C hR) fun cdv A outer s H vs Q E hr ⟨as, C, B, hR, g, hv, q⟩ => ⟨_, body cdv A outer s H E hr (takes_of rfl rfl rfl rfl) as C hR, B, H, B, sta_start g hv, fun σ' B' H' _ x => q B' H' x⟩
end
/-! ### try: what raises, except x as n: what gives a value -/
theorem sta_none {F0 F B : Hp} {σ : St} {H : Hp} {n : Nat} (x : Ext F0 F B H) (hl : σ.length = n) : Sta F0 F B σ H (List.replicate n none) := by
  have no : ∀ (i : Nat) s, (List.replicate n (none : Option Slot))[i]? ≠ some (some s) := fun i s z => by
    rw [List.getElem?_replicate] at z
    split at z <;> cases z
  exact ⟨x, by rw [List.length_replicate]; exact hl, fun i a z => absurd z (no i _), fun _ => [], fun i sh ls z => absurd z (no i _), fun i j sh ls sh' ls' x _ z => absurd z (no i _)⟩
section
variable {X : Cx} {n : Nat} {τ : Tau} {C D : Addr} {N : AE} {body suite : List Stmt} {b₀ : Stmt} {np pos pos' : Pos} {x y : Str}
theorem cs_tryR (i : Nat) (hN : X.N.Nodup) (hi : X.N[i]? = some y) (gD : X.mg x = some (.ref D)) (hm : PySem.W.exmOne X.K (.ref C) (.ref D) = some true)
    (hb : ∀ (W : WX) (pn : List (Addr × Obj)) (xe : Value → Shared → Prop), Takes (X.tr pn xe) W → RSs (X.tr pn xe) W n body τ C)
    (hsu : ∀ (a : Addr) (oe : Obj) (pn : List (Addr × Obj)), Zc (.ref C) none oe → (∃ vs, oe.data = .fields vs) → CSs (X.suite a ((a, oe) :: pn)) (b₀ :: suite) ((List.replicate n none).set i (some (.val (.cst (.ref a))))) { rt := N.rt, rn := N.rn })
    (hs : X.stack = X.env :: X.outer := by rfl) (hf : X.env.frame = some X.env.locals := by rfl) (hln : X.env.kindOf y = some .local := by rfl) (hg : Gl X x := by rfl) (hdb : (x == ("__debug__" : Str)) = false := by decide) :
    CS X (.Try body [.ExceptHandler (some (.Name x np)) (some y) (b₀ :: suite) pos'] [] [] pos) τ N := by
  refine cs_of (ps_try_as (Wout := fun _ _ _ _ => False) (tb := fun W => tRS W n τ C) (ts := fun a cls d D' σ H => (cls = .ref C ∧ d = none) ∧ tS ((List.replicate n none).set i (some (.val (.cst (.ref a))))) { rt := N.rt, rn := N.rn } D' σ H)
    hs hf hN hi hln ⟨hg, hdb, .inl gD⟩ takes0 (fun W pn xe tk _ => hb W pn xe tk) (fun a oe cls d pn hz hv => ⟨fun pins s σ H D' I ⟨⟨e1, e2⟩, w⟩ => ?_⟩)) fun F0 F B D' σ H S L => ?_
  · subst e1 e2
    exact (hsu a oe pn hz hv).run pins s σ H D' I w
  · refine ⟨F0, F, B, S, fun σ' B' H' hl xx => ⟨true, hm, fun _ a ha => ⟨⟨rfl, rfl⟩, F0, F, B', (sta_none xx hl).set rfl, ?_⟩, fun z => by cases z⟩⟩
    exact ⟨fun _ _ _ _ z => z.elim, L.rt, L.rn, fun _ _ _ _ z => z.elim, fun _ _ _ _ z => z.elim⟩
/-- isinstance(error, T) in the suite -/
theorem c_isE {a : Addr} {oe : Obj} {pn : List (Addr × Obj)} {e1 e2 : Expr} {v : V} {cv : Value} {b : Bool} {p : Pos} (c : ExcC X.K C) (hz : Zc (.ref C) none oe) (hf : ∃ vs, oe.data = .fields vs)
    (h1 : CE (X.suite a ((a, oe) :: pn)) e1 τ (.cst (.ref a))) (h2 : CE (X.suite a ((a, oe) :: pn)) e2 τ (.cst v)) (hv : ∀ u, RelV v u → u = cv) (hk : PySem.W.kitOne X.K (.ref C) cv = some b) (hm : X.mg "isinstance" = none) (hg : Gl (X.suite a ((a, oe) :: pn)) "isinstance" := by rfl)
    (he : starEach [e1, e2] X.env = (false, eval e1 X.env) :: starEach [e2] X.env := by rfl) (he2 : starEach [e2] X.env = (false, eval e2 X.env) :: starEach [] X.env := by rfl) (hpl : (backTo pos (starEach [e2] X.env)).any (·.1) = false := by rfl) :
    CE (X.suite a ((a, oe) :: pn)) (.Call (.Name "isinstance" p) [e1, e2] [] pos) τ (.bl b) :=
  c_blt (X := X.suite a ((a, oe) :: pn)) (call_isE c hz hf) hm PyProof.Rows.boot_isinstance (ca_cons h1 (ca_cons h2 ca_nil he2) he) (fun vs B H Q g h q => by
    obtain ⟨x, y, rfl, k1, k2⟩ := reps2 h
    have k1' : x = .ref a := k1
    have k2' : y = v := k2
    subst k1' k2'
    exact ⟨y, cv, b, rfl, hv, hk, q _ B H (.refl g) rfl⟩) (hg := hg) (he := he) (hpl := hpl)
end
/-! ### what a thing is -/
def Knd (K : PySem.W.Frag) (a : AV) (T : String) : Prop := ∀ B x, a.p B x → ∀ H, Gr B H → TyX K H x (.type T)
def tys : List String := ["NoneType", "tuple", "str", "int", "dict", "list", "bool"]
theorem ty_dic {K : PySem.W.Frag} (l : List (Key × AV)) : ∀ B x, (AV.dic l).p B x → ∀ H, Gr B H → TyX K H x (.type "dict") := fun B x h H g => by
  obtain ⟨a, vs, rfl, h1, _⟩ := h
  exact .base (.dK (g _ _ h1))
theorem kit_int : ∀ T ∈ tys, L2.kitB T "int" = some (decide (T = "int") || decide (T = "bool")) := by decide +kernel
theorem kit_bool : ∀ T ∈ tys, L2.kitB T "bool" = some (decide (T = "bool")) := by decide +kernel
theorem kit_list : ∀ T ∈ tys, L2.kitB T "list" = some (decide (T = "list")) := by decide +kernel
/-- no number; a bead, right or not -/
def NoInt (K : PySem.W.Frag) (a : AV) : Prop := ∃ T, Knd K a T ∧ T ∈ tys ∧ T ≠ "int"
inductive Bead (K : PySem.W.Frag) : AV → Bool → Prop where
  | int (i : Int) : Bead K (.int i) (decide (0 ≤ i))
  | oth {a : AV} (h : NoInt K a) : Bead K a false
/-- no ring, no count of colours, no length, no number -/
inductive NoRing (K : PySem.W.Frag) : AV → Prop where
  | ty {a : AV} {T : String} (h : Knd K a T) (m : T ∈ tys) (n : T ≠ "list") : NoRing K a
  | len {l : List AV} (h : l.length = 0 ∨ (200 < l.length ∧ l.length ≤ 1000000)) : NoRing K (.lst l)
  | bead {l : List (AV × Bool)} (h1 : 1 ≤ l.length) (h2 : l.length ≤ 200) (hb : ∀ q ∈ l, Bead K q.1 q.2) (hn : ∃ q ∈ l, q.2 = false) : NoRing K (.lst (l.map Prod.fst))
inductive NoCol (K : PySem.W.Frag) : AV → Prop where
  | ty {a : AV} (h : NoInt K a) : NoCol K a
  | int {i : Int} (h : i < 1) : NoCol K (.int i)
inductive NoLen (K : PySem.W.Frag) : AV → Prop where
  | ty {a : AV} (h : NoInt K a) : NoLen K a
  | int {i : Int} (h : i < 1 ∨ 200 < i) : NoLen K (.int i)
inductive NoNum (K : PySem.W.Frag) (w : Int) : AV → Prop where
  | ty {a : AV} (h : NoInt K a) : NoNum K w a
  | int {i : Int} (h : i < 0 ∨ w ≤ i) : NoNum K w (.int i)
section
variable {K : PySem.W.Frag}
theorem no_non : NoInt K .non := ⟨_, ty_non, by decide, by decide⟩
theorem no_str (s : Str) : NoInt K (.str s) := ⟨_, ty_str s, by decide, by decide⟩
theorem no_bl (b : Bool) : NoInt K (.bl b) := ⟨_, ty_bl b, by decide, by decide⟩
theorem no_lst (l : List AV) : NoInt K (.lst l) := ⟨_, ty_lst l, by decide, by decide⟩
theorem no_tup (l : List AV) : NoInt K (.tup l) := ⟨_, ty_tup l, by decide, by decide⟩
theorem no_dic (l : List (Key × AV)) : NoInt K (.dic l) := ⟨_, ty_dic l, by decide, by decide⟩
end
end Ab
set_option Elab.async false
set_option linter.all false
set_option maxRecDepth 100000
set_option maxHeartbeats 1000000
namespace Ab
open PySem L2
/-! ### the head's facts of the refusals -/
def excB (K : PySem.W.Frag) (x : Str) : Bool := He.eqO (PySem.W.findIn K (.ref (He.ga K x)) "__getattribute__") (some (some (.builtin "BaseException.__getattribute__"))) &&
  (He.eqO (PySem.W.findIn K (.ref (He.ga K x)) "__getattr__") (some none) && (PySem.W.hasDictIn K (He.ga K x) && clsB K x))
def kitV (K : PySem.W.Frag) (x : Str) (t : String) (b : Bool) : Bool := decide (PySem.W.kitOne K (.ref (He.ga K x)) (.type t) = some b)
theorem kitV_ok {K : PySem.W.Frag} {x : Str} {t : String} {b : Bool} (h : kitV K x t b = true) : PySem.W.kitOne K (.ref (He.ga K x)) (.type t) = some b := of_decide_eq_true h
/-- a class of refusals -/
structure Err (K : PySem.W.Frag) (mg : Str → Option Value) (x : Str) : Prop where
  k : ExcK K mg x (He.ga K x)
  c : ExcC K (He.ga K x)
  m : PySem.W.exmOne K (.ref (He.ga K x)) (.ref (He.ga K "RingError")) = some true
  r : PySem.W.kitOne K (.ref (He.ga K x)) (.ref (He.ga K "BadRing")) = some (decide (x = "BadRing"))
  o : PySem.W.kitOne K (.ref (He.ga K x)) (.ref (He.ga K "BadColours")) = some (decide (x = "BadColours"))
  l : PySem.W.kitOne K (.ref (He.ga K x)) (.ref (He.ga K "BadLength")) = some (decide (x = "BadLength"))
  n : PySem.W.kitOne K (.ref (He.ga K x)) (.ref (He.ga K "BadNumber")) = some (decide (x = "BadNumber"))
  v : PySem.W.kitOne K (.ref (He.ga K x)) (.type "ValueError") = some true
def errB (K : PySem.W.Frag) (x : Str) : Bool := excB K x && (kitB K x "BadRing" (decide (x = "BadRing")) && (kitB K x "BadColours" (decide (x = "BadColours")) && (kitB K x "BadLength" (decide (x = "BadLength")) && (kitB K x "BadNumber" (decide (x = "BadNumber")) && kitV K x "ValueError" true))))
theorem err_of {K : PySem.W.Frag} {mg : Str → Option Value} {x : Str} (g : mg x = some (.ref (He.ga K x)))
    (e : PySem.W.excIn K (He.ga K x) He.veBase "ValueError.__new__" = true ∧ PySem.W.keepIn K (.ref (He.ga K x)) = true ∧ PySem.W.subIn K (.ref (He.ga K x)) (.type "BaseException") = some true ∧ PySem.W.typeIn K (.ref (He.ga K x)) = some (.type "type"))
    (m : PySem.W.exmOne K (.ref (He.ga K x)) (.ref (He.ga K "RingError")) = some true) (h : errB K x = true) : Err K mg x := by
  obtain ⟨h0, h⟩ := He.ba h
  obtain ⟨h1, h⟩ := He.ba h
  obtain ⟨h2, h⟩ := He.ba h
  obtain ⟨h3, h⟩ := He.ba h
  obtain ⟨h4, h5⟩ := He.ba h
  obtain ⟨a1, h0⟩ := He.ba h0
  obtain ⟨a2, h0⟩ := He.ba h0
  obtain ⟨a3, h0⟩ := He.ba h0
  obtain ⟨b1, h0⟩ := He.ba h0
  obtain ⟨b2, h0⟩ := He.ba h0
  obtain ⟨b3, b4⟩ := He.ba h0
  exact ⟨⟨g, e.1, e.2.1, e.2.2.1, e.2.2.2⟩, ⟨He.eqO_ok a1, He.eqO_ok a2, e.2.2.1, a3, He.eqO_ok b1, He.eqO_ok b2, of_decide_eq_true b3, of_decide_eq_true b4⟩, m, kitB_ok h1, kitB_ok h2, kitB_ok h3, kitB_ok h4, kitV_ok h5⟩
theorem rep_one {α : Type} (x : α) (i : Int) : rep [x] i = List.replicate i.toNat x := by
  unfold rep
  induction i.toNat with
  | zero => rfl
  | succ k ih => rw [List.replicate_succ, List.flatten_cons, ih, List.replicate_succ]; rfl
theorem atI_get {l : List AV} {i : Int} (h0 : 0 ≤ i) (h1 : i < l.length) : atI l i = some (l[i.toNat]'(by omega)) := by
  unfold atI
  rw [ixN_of h0 h1, Option.bind_some, List.getElem?_eq_getElem]
theorem relV_ref {a : Addr} : ∀ u, RelV (.ref a) u → u = .ref a := fun _ h => h
theorem relV_ty {t : String} : ∀ u, RelV (.ty t) u → u = .type t := fun _ h => h
end Ab
set_option Elab.async false
set_option linter.all false
set_option maxRecDepth 100000
set_option maxHeartbeats 1000000
namespace K07
open PySem L2 Ab RM NK
def topS (i : Nat) : Stmt := PySem.Challenge.pw_ringkinds_k07_refused.main.body.getD i (.Pass ⟨0, 0, 0, 0⟩)
abbrev s__wall : Stmt := topS 0
abbrev s_is_number : Stmt := topS 9
abbrev s_asked_ring : Stmt := topS 10
abbrev s_turn_of : Stmt := topS 11
abbrev s_turned : Stmt := topS 12
abbrev s_least_turn : Stmt := topS 13
abbrev s_least : Stmt := topS 14
abbrev s_period_of : Stmt := topS 15
abbrev s_period : Stmt := topS 16
abbrev s_Turned___init__ : Stmt := inClass (topS 19) 0
abbrev s_Turned_shows : Stmt := inClass (topS 19) 1
abbrev s_Unlike___init__ : Stmt := inClass (topS 20) 0
abbrev s_Unlike_shows : Stmt := inClass (topS 20) 1
abbrev s_told_of : Stmt := topS 21
abbrev s_asked_colours : Stmt := topS 23
abbrev s_asked_length : Stmt := topS 24
abbrev s_power : Stmt := topS 25
abbrev s_common : Stmt := topS 26
abbrev s_divisors : Stmt := topS 27
abbrev s_free : Stmt := topS 28
abbrev s_rings : Stmt := topS 29
abbrev s_rows_of : Stmt := topS 30
abbrev s_of_period : Stmt := topS 31
abbrev s_asked_coloured : Stmt := topS 33
abbrev s_shares : Stmt := topS 34
abbrev s_greater : Stmt := topS 35
abbrev s_floor_row : Stmt := topS 36
abbrev s_number_of : Stmt := topS 37
abbrev s_ring_by : Stmt := topS 38
abbrev s_after : Stmt := topS 39
abbrev s_before : Stmt := topS 40
abbrev s_told : Stmt := topS 41
abbrev s__law_with_ring : Stmt := topS 43
abbrev s__law_with_colours : Stmt := topS 44
abbrev s__law_with_length : Stmt := topS 45
abbrev s__law_bad_ring : Stmt := topS 46
abbrev s__law_told : Stmt := topS 47
abbrev s_law : Stmt := topS 48
section
variable {P : Program} {w : World} {K : PySem.W.Frag} {mg : Str → Option Value} {base : Heap} {f : Addr} {fd : FuncData}
theorem scIsNumber : FnScope ["thing"] ["thing"] (defScope s_is_number) := ⟨rfl, rfl, rfl, by decide +kernel, rfl, by decide +kernel, by decide +kernel⟩
def RIsNumber (as : List AV) (a : AV) : Prop := ∃ i : Int, as = [.int i] ∧ a = .bl true
theorem ok_is_number (F : Fun K "is_number" "is_number" s_is_number f fd) (T : Tops mg) : FnOk P w K mg base CX0 1 f fd ["thing"] (spA RIsNumber) := by
  refine okA F scIsNumber (fun as l ⟨_, h, _⟩ => by rw [h]; rfl) fun cdv A outer s H E hr as a ⟨i, h, ha⟩ => ?_
  subst h ha
  refine css_one (cs_ret (c_and (c_isi (c_var 0) (c_tint T.int) (.ty _) (ty_int i) (k := true) (kit_ty (by decide +kernel)) T.isinstance) fun _ => c_one (c_not (c_isi (c_var 0) (c_tbool T.bool) (.ty _) (ty_int i) (k := false) (kit_ty (by decide +kernel)) T.isinstance))) rfl)

def IsNm (K : PySem.W.Frag) (a : AV) (b : Bool) : Prop := ∃ t, Knd K a t ∧ t ∈ tys ∧ b = decide (t = "int")
theorem isNm_int {K : PySem.W.Frag} (i : Int) : IsNm K (.int i) true := ⟨"int", ty_int i, by decide, by decide⟩
theorem isNm_no {K : PySem.W.Frag} {a : AV} (h : NoInt K a) : IsNm K a false := by
  obtain ⟨t, h1, h2, h3⟩ := h
  exact ⟨t, h1, h2, (decide_eq_false h3).symm⟩
def RIsNumX (K : PySem.W.Frag) (as : List AV) (a : AV) : Prop := ∃ x b, as = [x] ∧ IsNm K x b ∧ a = .bl b
theorem ok_is_numX (F : Fun K "is_number" "is_number" s_is_number f fd) (T : Tops mg) : FnOk P w K mg base CX0 1 f fd ["thing"] (spA (RIsNumX K)) := by
  refine okA F scIsNumber (fun as l ⟨_, _, h, _⟩ => by rw [h]; rfl) fun cdv A outer s H E hr as a ⟨x, b, h, ⟨t, hk, hm, hb⟩, ha⟩ => ?_
  subst h ha hb
  refine css_one (cs_ret (CE.is (c_and (c_isi (c_var 0) (c_tint T.int) (.ty _) hk (kit_ty (kit_int t hm)) T.isinstance) fun _ => c_one (c_not (c_isi (c_var 0) (c_tbool T.bool) (.ty _) hk (kit_ty (kit_bool t hm)) T.isinstance))) ?_) rfl)
  congr 1
  by_cases h1 : t = "bool"
  · subst h1; decide
  · by_cases h2 : t = "int"
    · subst h2; decide
    · rw [decide_eq_false h1, decide_eq_false h2]; rfl

theorem scAskedRing : FnScope ["ring", "bead"] ["ring"] (defScope s_asked_ring) := ⟨rfl, rfl, rfl, by decide +kernel, rfl, by decide +kernel, by decide +kernel⟩
def RAskedRing (as : List AV) (a : AV) : Prop := ∃ r : List Int, as = [.il r] ∧ Ring r ∧ a = .non
theorem ok_asked_ring (F : Fun K "asked_ring" "asked_ring" s_asked_ring f fd) (T : Tops mg) (hLng : ∃ t, mg "LONGEST" = some (.int 200 t)) (G1 : Has P w K mg base "is_number" 1 (spA RIsNumber)) : FnOk P w K mg base CX0 2 f fd ["ring"] (spA RAskedRing) := by
  refine okA F scAskedRing (fun as l ⟨_, h, _⟩ => by rw [h]; rfl) fun cdv A outer s H E hr as a ⟨r, h, hR, ha⟩ => ?_
  subst h ha
  have nd : (["ring", "bead"] : List Str).Nodup := scAskedRing.nd
  have hp := List.length_pos_iff.mpr hR.ne
  have hle := hR.le
  obtain ⟨tl, hL⟩ := hLng
  refine css_seq (cs_if (b := false) ((CW.ct (cw_or (ct_not (ct_val (c_isi (c_var 0) (c_tlist T.list) (.ty _) (ty_lst _) (k := true) (kit_ty (by decide +kernel)) T.isinstance)))
    fun _ => cw_or1 (ct_not (ct_chain op_le op_le c_int (c_lenI T.len (c_var 0)) (c_globI hL) r_int r_int)))).is ?_) (fun h => by cases h) fun _ => css_nil rfl) ?_
  · have h1 : decide ((1 : Int) ≤ (r.length : Int)) = true := decide_eq_true (by omega)
    have h2 : decide ((r.length : Int) ≤ 200) = true := decide_eq_true (by omega)
    rw [h1, h2]; rfl
  refine css_one (cs_if (b := false) ((ct_not (ct_val (c_all (bs := r.map fun _ => true) T.all (CN.ce (CN.is (cn_lc1 1 (φ := AV.int) (χ := fun _ => AV.bl true) (xs := r) (fun _ => true) nd (ci_list (c_var 0)) (by omega) (fun _ _ _ _ _ _ _ => cts_nil)
    fun x hx _ _ _ _ _ _ => ?_) ?_))))).is ?_) (fun h => by cases h) fun _ => css_nil rfl)
  · refine CE.is (c_and (c_call G1 hr (ca_cons (c_var 1) ca_nil) ⟨x, rfl, rfl⟩) fun _ => c_one (c_ge (c_var 1) c_int)) ?_
    rw [decide_eq_true (hR.nn x hx)]; rfl
  · rw [filter_true, List.map_map]; rfl
  · simp

def RNoRing (K : PySem.W.Frag) (as : List AV) (C : Addr) : Prop := ∃ a, as = [a] ∧ NoRing K a ∧ C = He.ga K "BadRing"
theorem ok_asked_ringX (F : Fun K "asked_ring" "asked_ring" s_asked_ring f fd) (T : Tops mg) (hLng : ∃ t, mg "LONGEST" = some (.int 200 t)) (G1 : Has P w K mg base "is_number" 1 (spA (RIsNumX K))) (eR : Err K mg "BadRing") : FnOk P w K mg base (L2.CX P w) 2 f fd ["ring"] (spX (RNoRing K)) := by
  refine okR F scAskedRing (fun as C ⟨_, h, _⟩ => by rw [h]; rfl) fun cdv A outer s H E hr tk as C ⟨a, h, hR, hC⟩ => ?_
  subst h hC
  have nd : (["ring", "bead"] : List Str).Nodup := scAskedRing.nd
  obtain ⟨tl, hL⟩ := hLng
  cases hR with
  | @ty _ t hk hm hn =>
    refine rss_head (rs_if (b := true) (CT.is (CW.ct (cw_or (d := true) (ct_not (ct_val (c_isi (c_var 0) (c_tlist T.list) (.ty _) hk (kit_ty (kit_list t hm)) T.isinstance))) fun h => ?_)) (by simp)) (fun _ => rss_head (rs_raise eR.k tk)) fun h => by cases h)
    simp [hn] at h
  | @len l hl =>
    refine rss_head (rs_if (b := true) (CT.is (CW.ct (cw_or (ct_not (ct_val (c_isi (c_var 0) (c_tlist T.list) (.ty _) (ty_lst _) (k := true) (kit_ty (by decide +kernel)) T.isinstance)))
      fun _ => cw_or1 (ct_not (ct_chain op_le op_le c_int (c_len T.len (c_var 0)) (c_globI hL) r_int r_int)))) ?_) (fun _ => rss_head (rs_raise eR.k tk)) fun h => by cases h)
    rcases hl with hl | ⟨hl, _⟩
    · rw [decide_eq_false (show ¬ (1 : Int) ≤ (l.length : Int) by omega)]; rfl
    · rw [decide_eq_false (show ¬ (l.length : Int) ≤ 200 by omega)]; simp
  | @bead l h1 h2 hb hn =>
    refine rss_seq (cs_if (b := false) (CT.is (CW.ct (cw_or (ct_not (ct_val (c_isi (c_var 0) (c_tlist T.list) (.ty _) (ty_lst _) (k := true) (kit_ty (by decide +kernel)) T.isinstance)))
      fun _ => cw_or1 (ct_not (ct_chain op_le op_le c_int (CE.is (c_len T.len (c_var 0)) (b := .int (l.length : Nat)) (by rw [List.length_map])) (c_globI hL) r_int r_int)))) ?_) (fun h => by cases h) fun _ => css_nil rfl) ?_
    · rw [decide_eq_true (show (1 : Int) ≤ (l.length : Int) by omega), decide_eq_true (show (l.length : Int) ≤ 200 by omega)]; rfl
    refine rss_head (rs_if (b := true) (CT.is (ct_not (ct_val (c_all (bs := l.map Prod.snd) T.all (CN.ce (CN.is (cn_lc1 1 (φ := Prod.fst) (χ := fun q : AV × Bool => AV.bl q.2) (xs := l) (fun _ => true) nd (ci_list (c_var 0)) (by omega) (fun _ _ _ _ _ _ _ => cts_nil)
      fun q hq _ _ _ _ _ _ => ?_) ?_))))) ?_) (fun _ => rss_head (rs_raise eR.k tk)) fun h => by cases h)
    · have hq2 := hb q hq
      obtain ⟨a, b⟩ := q
      have hq3 : Bead K a b := hq2
      cases hq3 with
      | int i => exact CE.is (c_and (c_call G1 hr (ca_cons (c_var 1) ca_nil) ⟨.int i, true, rfl, isNm_int i, rfl⟩) fun _ => c_one (c_ge (c_var 1) c_int)) rfl
      | oth hh => exact CE.is (c_and (d := false) (c_call G1 hr (ca_cons (c_var 1) ca_nil) ⟨a, false, rfl, isNm_no hh, rfl⟩) fun h => by cases h) rfl
    · rw [filter_true, List.map_map]; rfl
    · obtain ⟨q, hq, hf⟩ := hn
      have : (l.map Prod.snd).all id = false := by
        cases z : (l.map Prod.snd).all id with
        | false => rfl
        | true =>
          have := List.all_eq_true.mp z q.2 (List.mem_map.mpr ⟨q, hq, rfl⟩)
          rw [hf] at this; cases this
      rw [this]; rfl

theorem scTurnOf : FnScope ["ring", "by", "at"] ["ring", "by"] (defScope s_turn_of) := ⟨rfl, rfl, rfl, by decide +kernel, rfl, by decide +kernel, by decide +kernel⟩
def RTurnOf (as : List AV) (l : List AV) : Prop := ∃ (r : List Int) (b : Int), as = [.il r, .int b] ∧ r ≠ [] ∧ r.length ≤ 1000 ∧ l = (turnOf r b).map AV.int
theorem ok_turn_of (F : Fun K "turn_of" "turn_of" s_turn_of f fd) (T : Tops mg) : FnOk P w K mg base CX0 1 f fd ["ring", "by"] (spN RTurnOf) := by
  refine okN F scTurnOf (fun as l ⟨r, b, h, _⟩ => by rw [h]; rfl) fun cdv A outer s H E hr as l ⟨r, b, h, hne, hz, hl⟩ => ?_
  subst h hl
  have nd : (["ring", "by", "at"] : List Str).Nodup := scTurnOf.nd
  have hp : 0 < (r.length : Int) := by have := List.length_pos_iff.mpr hne; omega
  have m0 := Int.emod_nonneg b (by omega : (r.length : Int) ≠ 0)
  refine css_seq (cs_set 2 nd (c_mod (c_var 1) (c_lenI T.len (c_var 0)) hp) rfl) ?_
  refine css_one (cs_retN (CN.is (cn_cat (CN.is (cn_slice (c_var 0) (co_some (c_var 2)) co_none) (cut_fromI _ m0)).ce (CN.is (cn_slice (c_var 0) co_none (co_some (c_var 2))) (cut_toI _ m0)).ce ?_) ?_) rfl)
  · simp; omega
  · unfold turnOf; simp

theorem scTurned : FnScope ["ring", "by"] ["ring", "by"] (defScope s_turned) := ⟨rfl, rfl, rfl, by decide +kernel, rfl, by decide +kernel, by decide +kernel⟩
def RTurned (as : List AV) (l : List AV) : Prop := ∃ (r : List Int) (b : Int), as = [.il r, .int b] ∧ Ring r ∧ l = (turnOf r b).map AV.int
theorem ok_turned (F : Fun K "turned" "turned" s_turned f fd) (G1 : Has P w K mg base "asked_ring" 2 (spA RAskedRing)) (G2 : Has P w K mg base "is_number" 1 (spA RIsNumber)) (G3 : Has P w K mg base "turn_of" 1 (spN RTurnOf)) :
    FnOk P w K mg base CX0 3 f fd ["ring", "by"] (spN RTurned) := by
  refine okN F scTurned (fun as l ⟨r, b, h, _⟩ => by rw [h]; rfl) fun cdv A outer s H E hr as l ⟨r, b, h, hR, hl⟩ => ?_
  subst h hl
  have hle := hR.le
  refine css_seq (cs_expr (c_call G1 hr (ca_cons (c_var 0) ca_nil) ⟨r, rfl, hR, rfl⟩) rfl) ?_
  refine css_seq (cs_if (ct_not (ct_val (c_call G2 (hr.mono (by decide)) (ca_cons (c_var 1) ca_nil) ⟨b, rfl, rfl⟩))) (fun h => by cases h) fun _ => css_nil rfl) ?_
  exact css_one (cs_retN (cn_call G3 (hr.mono (by decide)) (ca_cons (c_var 0) (ca_cons (c_var 1) ca_nil)) ⟨r, b, rfl, hR.ne, by omega, rfl⟩) rfl)

def RTurnedX (K : PySem.W.Frag) (as : List AV) (C : Addr) : Prop := (∃ a b, as = [a, b] ∧ NoRing K a ∧ C = He.ga K "BadRing") ∨ ∃ r b, as = [.il r, b] ∧ Ring r ∧ NoInt K b ∧ C = He.ga K "BadNumber"
theorem ok_turnedX (F : Fun K "turned" "turned" s_turned f fd) (G1 : Has P w K mg base "asked_ring" 2 (spA RAskedRing)) (X1 : HasX P w K mg base "asked_ring" 2 (spX (RNoRing K))) (G2 : Has P w K mg base "is_number" 1 (spA (RIsNumX K))) (eN : Err K mg "BadNumber") : FnOk P w K mg base (L2.CX P w) 3 f fd ["ring", "by"] (spX (RTurnedX K)) := by
  refine okR F scTurned (fun as C h => by rcases h with ⟨_, _, h, _⟩ | ⟨_, _, h, _⟩ <;> rw [h] <;> rfl) fun cdv A outer s H E hr tk as C h => ?_
  rcases h with ⟨a, b, h, hR, hC⟩ | ⟨r, b, h, hR, hn, hC⟩
  · subst h hC
    exact rss_head (rs_expr (re_call X1 tk hr (ca_cons (c_var 0) ca_nil) ⟨a, rfl, hR, rfl⟩))
  · subst h hC
    refine rss_seq (cs_expr (c_call G1 hr (ca_cons (c_var 0) ca_nil) ⟨r, rfl, hR, rfl⟩) rfl) ?_
    exact rss_head (rs_if (ct_not (ct_val (c_call G2 (hr.mono (by decide)) (ca_cons (c_var 1) ca_nil) ⟨b, false, rfl, isNm_no hn, rfl⟩))) (fun _ => rss_head (rs_raise eN.k tk)) fun h => by cases h)

theorem scLeastTurn : FnScope ["ring", "rows", "by"] ["ring"] (defScope s_least_turn) := ⟨rfl, rfl, rfl, by decide +kernel, rfl, by decide +kernel, by decide +kernel⟩
def RLeastTurn (as : List AV) (a : AV) : Prop := ∃ (r : List Int), as = [.il r] ∧ r ≠ [] ∧ r.length ≤ 1000 ∧ a = .int (leastT r)
theorem ok_least_turn (F : Fun K "least_turn" "least_turn" s_least_turn f fd) (T : Tops mg) (G : Has P w K mg base "turn_of" 1 (spN RTurnOf)) : FnOk P w K mg base CX0 2 f fd ["ring"] (spA RLeastTurn) := by
  refine okA F scLeastTurn (fun as l ⟨r, h, _⟩ => by rw [h]; rfl) fun cdv A outer s H E hr as a ⟨r, h, hne, hz, ha⟩ => ?_
  subst h ha
  have nd : (["ring", "rows", "by"] : List Str).Nodup := scLeastTurn.nd
  refine css_seq (cs_setLc1 1 2 (l := (turns r).map AV.il) (φ := AV.int) (χ := fun b => AV.il (turnOf r b)) (xs := rng 0 r.length) (fun _ => true) nd ?_ (by rw [rng_len]; omega) (fun _ _ _ _ _ _ _ => cts_nil) (fun b hb _ _ _ _ _ _ => CN.ce (cn_call G hr (ca_cons (c_var 0) (ca_cons (c_var 2) ca_nil)) ⟨r, b, rfl, hne, hz, rfl⟩)) ?_ rfl) ?_
  · exact ci_range1 (c_lenI T.len (c_var 0)) (by omega) T.range
  · rw [filter_true]; unfold turns; rw [List.map_map]; rfl
  · exact css_one (cs_ret (c_indexR (units65 hr) (c_var 1) (c_minR T.min hr.units (c_var 1) (turns_ne hne)) (leastR_mem hne)) rfl)

theorem scLeast : FnScope ["ring"] ["ring"] (defScope s_least) := ⟨rfl, rfl, rfl, by decide +kernel, rfl, by decide +kernel, by decide +kernel⟩
def RLeast (as : List AV) (l : List AV) : Prop := ∃ (r : List Int), as = [.il r] ∧ Ring r ∧ l = (leastR r).map AV.int
theorem ok_least (F : Fun K "least" "least" s_least f fd) (G1 : Has P w K mg base "asked_ring" 2 (spA RAskedRing)) (G2 : Has P w K mg base "least_turn" 2 (spA RLeastTurn)) (G3 : Has P w K mg base "turn_of" 1 (spN RTurnOf)) :
    FnOk P w K mg base CX0 3 f fd ["ring"] (spN RLeast) := by
  refine okN F scLeast (fun as l ⟨r, h, _⟩ => by rw [h]; rfl) fun cdv A outer s H E hr as l ⟨r, h, hR, hl⟩ => ?_
  subst h hl
  have hle := hR.le
  refine css_seq (cs_expr (c_call G1 hr (ca_cons (c_var 0) ca_nil) ⟨r, rfl, hR, rfl⟩) rfl) ?_
  refine css_one (cs_retN (CN.is (cn_call G3 (hr.mono (by decide)) (ca_cons (c_var 0) (ca_cons (c_call G2 hr (ca_cons (c_var 0) ca_nil) ⟨r, rfl, hR.ne, by omega, rfl⟩) ca_nil)) ⟨r, _, rfl, hR.ne, by omega, rfl⟩) ?_) rfl)
  rw [leastT_turn hR.ne]

theorem ok_leastX (F : Fun K "least" "least" s_least f fd) (X1 : HasX P w K mg base "asked_ring" 2 (spX (RNoRing K))) : FnOk P w K mg base (L2.CX P w) 3 f fd ["ring"] (spX (RNoRing K)) := by
  refine okR F scLeast (fun as C ⟨_, h, _⟩ => by rw [h]; rfl) fun cdv A outer s H E hr tk as C ⟨a, h, hR, hC⟩ => ?_
  subst h hC
  exact rss_head (rs_expr (re_call X1 tk hr (ca_cons (c_var 0) ca_nil) ⟨a, rfl, hR, rfl⟩))

theorem scPeriodOf : FnScope ["ring", "by"] ["ring"] (defScope s_period_of) := ⟨rfl, rfl, rfl, by decide +kernel, rfl, by decide +kernel, by decide +kernel⟩
def RPeriodOf (as : List AV) (a : AV) : Prop := ∃ (r : List Int), as = [.il r] ∧ r ≠ [] ∧ r.length ≤ 1000 ∧ a = .int (per r)
theorem ok_period_of (F : Fun K "period_of" "period_of" s_period_of f fd) (T : Tops mg) (G : Has P w K mg base "turn_of" 1 (spN RTurnOf)) : FnOk P w K mg base CX0 2 f fd ["ring"] (spA RPeriodOf) := by
  refine okA F scPeriodOf (fun as l ⟨r, h, _⟩ => by rw [h]; rfl) fun cdv A outer s H E hr as a ⟨r, h, hne, hz, ha⟩ => ?_
  subst h ha
  have nd : (["ring", "by"] : List Str).Nodup := scPeriodOf.nd
  refine css_one (cs_ret (c_min T.min (CN.ce (CN.is (cn_lc1 1 (φ := AV.int) (χ := AV.int) (xs := rng 1 r.length) (fun b => decide (turnOf r b = r)) nd ?_ (by rw [rng_len]; omega)
    (fun b hb _ _ _ _ _ => cts_one (ct_eqL hr.units (CN.ce (cn_call G hr (ca_cons (c_var 0) (ca_cons (c_var 1) ca_nil)) ⟨r, b, rfl, hne, hz, rfl⟩)) (c_var 0))) (fun b hb _ _ _ _ _ _ => c_var 1)) rfl)) (pers_ne hne)) rfl)
  refine CI.is (ci_range2 c_int (c_add (c_lenI T.len (c_var 0)) c_int) (by omega) (by omega) T.range) ?_
  have e : (((r.length : Int) + 1) - 1).toNat = r.length := by omega
  rw [e]

theorem scPeriod : FnScope ["ring"] ["ring"] (defScope s_period) := ⟨rfl, rfl, rfl, by decide +kernel, rfl, by decide +kernel, by decide +kernel⟩
def RPeriod (as : List AV) (a : AV) : Prop := ∃ (r : List Int), as = [.il r] ∧ Ring r ∧ a = .int (per r)
theorem ok_period (F : Fun K "period" "period" s_period f fd) (G1 : Has P w K mg base "asked_ring" 2 (spA RAskedRing)) (G2 : Has P w K mg base "period_of" 2 (spA RPeriodOf)) :
    FnOk P w K mg base CX0 3 f fd ["ring"] (spA RPeriod) := by
  refine okA F scPeriod (fun as l ⟨r, h, _⟩ => by rw [h]; rfl) fun cdv A outer s H E hr as a ⟨r, h, hR, ha⟩ => ?_
  subst h ha
  have hle := hR.le
  refine css_seq (cs_expr (c_call G1 hr (ca_cons (c_var 0) ca_nil) ⟨r, rfl, hR, rfl⟩) rfl) ?_
  exact css_one (cs_ret (c_call G2 hr (ca_cons (c_var 0) ca_nil) ⟨r, rfl, hR.ne, by omega, rfl⟩) rfl)

theorem ok_periodX (F : Fun K "period" "period" s_period f fd) (X1 : HasX P w K mg base "asked_ring" 2 (spX (RNoRing K))) : FnOk P w K mg base (L2.CX P w) 3 f fd ["ring"] (spX (RNoRing K)) := by
  refine okR F scPeriod (fun as C ⟨_, h, _⟩ => by rw [h]; rfl) fun cdv A outer s H E hr tk as C ⟨a, h, hR, hC⟩ => ?_
  subst h hC
  exact rss_head (rs_expr (re_call X1 tk hr (ca_cons (c_var 0) ca_nil) ⟨a, rfl, hR, rfl⟩))

theorem scAskedColours : FnScope ["colours"] ["colours"] (defScope s_asked_colours) := ⟨rfl, rfl, rfl, by decide +kernel, rfl, by decide +kernel, by decide +kernel⟩
def RAskedColours (as : List AV) (a : AV) : Prop := ∃ c : Int, as = [.int c] ∧ 1 ≤ c ∧ a = .non
theorem ok_asked_colours (F : Fun K "asked_colours" "asked_colours" s_asked_colours f fd) (G1 : Has P w K mg base "is_number" 1 (spA RIsNumber)) : FnOk P w K mg base CX0 2 f fd ["colours"] (spA RAskedColours) := by
  refine okA F scAskedColours (fun as l ⟨_, h, _⟩ => by rw [h]; rfl) fun cdv A outer s H E hr as a ⟨c, h, hc, ha⟩ => ?_
  subst h ha
  refine css_one (cs_if (b := false) (CT.is (CW.ct (cw_or (ct_not (ct_val (c_call G1 hr (ca_cons (c_var 0) ca_nil) ⟨c, rfl, rfl⟩))) fun _ => cw_or1 (ct_lt (c_var 0) c_int))) ?_) (fun h => by cases h) fun _ => css_nil rfl)
  rw [decide_eq_false (show ¬ c < 1 by omega)]; rfl

def RNoCol (K : PySem.W.Frag) (as : List AV) (C : Addr) : Prop := ∃ a, as = [a] ∧ NoCol K a ∧ C = He.ga K "BadColours"
theorem ok_asked_coloursX (F : Fun K "asked_colours" "asked_colours" s_asked_colours f fd) (G1 : Has P w K mg base "is_number" 1 (spA (RIsNumX K))) (eC : Err K mg "BadColours") : FnOk P w K mg base (L2.CX P w) 2 f fd ["colours"] (spX (RNoCol K)) := by
  refine okR F scAskedColours (fun as C ⟨_, h, _⟩ => by rw [h]; rfl) fun cdv A outer s H E hr tk as C ⟨a, h, hR, hC⟩ => ?_
  subst h hC
  cases hR with
  | ty hn => exact rss_head (rs_if (b := true) (CT.is (CW.ct (cw_or (d := true) (ct_not (ct_val (c_call G1 hr (ca_cons (c_var 0) ca_nil) ⟨a, false, rfl, isNm_no hn, rfl⟩))) fun h => by cases h)) rfl) (fun _ => rss_head (rs_raise eC.k tk)) fun h => by cases h)
  | @int i hi => exact rss_head (rs_if (b := true) (CT.is (CW.ct (cw_or (ct_not (ct_val (c_call G1 hr (ca_cons (c_var 0) ca_nil) ⟨.int i, true, rfl, isNm_int i, rfl⟩))) fun _ => cw_or1 (ct_lt (c_var 0) c_int))) (by rw [decide_eq_true hi]; rfl)) (fun _ => rss_head (rs_raise eC.k tk)) fun h => by cases h)

theorem scAskedLength : FnScope ["length"] ["length"] (defScope s_asked_length) := ⟨rfl, rfl, rfl, by decide +kernel, rfl, by decide +kernel, by decide +kernel⟩
def RAskedLength (as : List AV) (a : AV) : Prop := ∃ c : Int, as = [.int c] ∧ 1 ≤ c ∧ c ≤ 200 ∧ a = .non
theorem ok_asked_length (F : Fun K "asked_length" "asked_length" s_asked_length f fd) (hLng : ∃ t, mg "LONGEST" = some (.int 200 t)) (G1 : Has P w K mg base "is_number" 1 (spA RIsNumber)) : FnOk P w K mg base CX0 2 f fd ["length"] (spA RAskedLength) := by
  refine okA F scAskedLength (fun as l ⟨_, h, _⟩ => by rw [h]; rfl) fun cdv A outer s H E hr as a ⟨c, h, hc, hc2, ha⟩ => ?_
  subst h ha
  obtain ⟨tl, hL⟩ := hLng
  refine css_one (cs_if (b := false) (CT.is (CW.ct (cw_or (ct_not (ct_val (c_call G1 hr (ca_cons (c_var 0) ca_nil) ⟨c, rfl, rfl⟩))) fun _ => cw_or1 (ct_not (ct_chain op_le op_le c_int (c_var 0) (c_globI hL) r_int r_int)))) ?_) (fun h => by cases h) fun _ => css_nil rfl)
  rw [decide_eq_true hc, decide_eq_true hc2]; rfl

def RNoLen (K : PySem.W.Frag) (as : List AV) (C : Addr) : Prop := ∃ a, as = [a] ∧ NoLen K a ∧ C = He.ga K "BadLength"
theorem ok_asked_lengthX (F : Fun K "asked_length" "asked_length" s_asked_length f fd) (hLng : ∃ t, mg "LONGEST" = some (.int 200 t)) (G1 : Has P w K mg base "is_number" 1 (spA (RIsNumX K))) (eL : Err K mg "BadLength") : FnOk P w K mg base (L2.CX P w) 2 f fd ["length"] (spX (RNoLen K)) := by
  refine okR F scAskedLength (fun as C ⟨_, h, _⟩ => by rw [h]; rfl) fun cdv A outer s H E hr tk as C ⟨a, h, hR, hC⟩ => ?_
  subst h hC
  obtain ⟨tl, hL⟩ := hLng
  cases hR with
  | ty hn => exact rss_head (rs_if (b := true) (CT.is (CW.ct (cw_or (d := true) (ct_not (ct_val (c_call G1 hr (ca_cons (c_var 0) ca_nil) ⟨a, false, rfl, isNm_no hn, rfl⟩))) fun h => by cases h)) rfl) (fun _ => rss_head (rs_raise eL.k tk)) fun h => by cases h)
  | @int i hi =>
    refine rss_head (rs_if (b := true) (CT.is (CW.ct (cw_or (ct_not (ct_val (c_call G1 hr (ca_cons (c_var 0) ca_nil) ⟨.int i, true, rfl, isNm_int i, rfl⟩))) fun _ => cw_or1 (ct_not (ct_chain op_le op_le c_int (c_var 0) (c_globI hL) r_int r_int)))) ?_) (fun _ => rss_head (rs_raise eL.k tk)) fun h => by cases h)
    rcases hi with hi | hi
    · rw [decide_eq_false (show ¬ (1 : Int) ≤ i by omega)]; rfl
    · rw [decide_eq_false (show ¬ i ≤ 200 by omega)]; simp

theorem sc_power : FnScope ["colours", "many", "found", "bead"] ["colours", "many"] (defScope s_power) := ⟨rfl, rfl, rfl, by decide +kernel, rfl, by decide +kernel, by decide +kernel⟩
def RPower_power (as : List AV) (a : AV) : Prop := ∃ (c : Int) (n : Nat), as = [.int c, .int n] ∧ Col c ∧ n ≤ 1000 ∧ a = .int (c ^ n)
theorem ok_power (F : Fun K "power" "power" s_power f fd) (T : Tops mg) : FnOk P w K mg base CX0 1 f fd ["colours", "many"] (spA RPower_power) := by
  refine okA F sc_power (fun as l ⟨_, _, h, _⟩ => by rw [h]; rfl) fun cdv A outer s H E hr as a ⟨c, n, h, hc, hn, ha⟩ => ?_
  subst h ha
  have nd : (["colours", "many", "found", "bead"] : List Str).Nodup := sc_power.nd
  refine css_seq (cs_set 2 nd (CE.is c_int (b := .int (c ^ 0)) (by rw [Int.pow_zero])) rfl) ?_
  refine css_cut (fun τ' => ∃ x, τ' = [some (.val (.int c)), some (.val (.int n)), some (.val (.int (c ^ n))), x])
    (cs_forN 3 (xs := rng 0 n) (φ := AV.int) (fun i τ' => ∃ x, τ' = [some (.val (.int c)), some (.val (.int n)), some (.val (.int (c ^ i))), x]) nd (CI.is (ci_range1 (c_var 1) (by omega) T.range) (by rw [Int.toNat_natCast])) ⟨_, rfl⟩ (fun i b τ1 hb _ hI => ?_) fun τ' h => by rw [rng_len] at h; exact h) ?_
  · obtain ⟨x, rfl⟩ := hI
    have hi := (List.getElem?_eq_some_iff.mp hb).1
    rw [rng_len] at hi
    exact css_one (cs_set 2 nd (c_mul (c_var 2) (c_var 0) (hc.pow_ok (by omega))) ⟨_, by rw [Int.pow_succ]; rfl⟩)
  · rintro τ' ⟨x, rfl⟩
    exact css_one (cs_ret (c_var 2) rfl)

theorem sc_common : FnScope ["one", "other"] ["one", "other"] (defScope s_common) := ⟨rfl, rfl, rfl, by decide +kernel, rfl, by decide +kernel, by decide +kernel⟩
def RCommon_common (as : List AV) (a : AV) : Prop := ∃ (m n : Nat), as = [.int m, .int n] ∧ a = .int (Nat.gcd m n : Nat)
theorem ok_common (F : Fun K "common" "common" s_common f fd) : FnOk P w K mg base CX0 1 f fd ["one", "other"] (spA RCommon_common) := by
  refine okA F sc_common (fun as l ⟨_, _, h, _⟩ => by rw [h]; rfl) fun cdv A outer s H E hr as a ⟨m, n, h, ha⟩ => ?_
  subst h ha
  have nd : (["one", "other"] : List Str).Nodup := sc_common.nd
  refine css_cut (fun τ' => ∃ x, τ' = [some (.val (.int (Nat.gcd m n : Nat))), x])
    (cs_while (fun k τ' => ∃ a b : Nat, b = k ∧ Nat.gcd a b = Nat.gcd m n ∧ τ' = [some (.val (.int a)), some (.val (.int b))]) n ⟨m, n, rfl, rfl, rfl⟩ fun k τ' hI => ?_) ?_
  · obtain ⟨a, b, rfl, hg, rfl⟩ := hI
    refine ⟨_, ct_ne (c_var 1) c_int, fun h => ?_, fun h => ?_⟩
    · have hb : 0 < b := by
        rcases Nat.eq_zero_or_pos b with e | e
        · subst e; simp at h
        · exact e
      refine css_one (cs_par 0 1 nd (ca_cons (c_var 1) (ca_cons (c_mod (c_var 0) (c_var 1) (by omega)) ca_nil)) ⟨a % b, Nat.mod_lt _ hb, b, a % b, rfl, ?_, rfl⟩)
      rw [← hg, Nat.gcd_comm a b, Nat.gcd_rec b a, Nat.gcd_comm]
    · have hb : b = 0 := by
        rcases Nat.eq_zero_or_pos b with e | e
        · exact e
        · exfalso; simp at h; omega
      subst hb
      rw [Nat.gcd_zero_right] at hg
      exact ⟨_, by rw [hg]⟩
  · rintro τ' ⟨x, rfl⟩
    exact css_one (cs_ret (c_var 0) rfl)

theorem scDivisors : FnScope ["number", "by"] ["number"] (defScope s_divisors) := ⟨rfl, rfl, rfl, by decide +kernel, rfl, by decide +kernel, by decide +kernel⟩
def RDivisors (as : List AV) (l : List AV) : Prop := ∃ (n : Nat), as = [.int n] ∧ n ≤ 1000 ∧ l = (divsN n).map fun d : Nat => AV.int (d : Int)
theorem ok_divisors (F : Fun K "divisors" "divisors" s_divisors f fd) (T : Tops mg) : FnOk P w K mg base CX0 1 f fd ["number"] (spN RDivisors) := by
  refine okN F scDivisors (fun as l ⟨_, h, _⟩ => by rw [h]; rfl) fun cdv A outer s H E hr as l ⟨n, h, hn, hl⟩ => ?_
  subst h hl
  have nd : (["number", "by"] : List Str).Nodup := scDivisors.nd
  refine css_one (cs_retN (cn_lc1 1 (φ := fun b : Nat => AV.int (b : Int)) (χ := fun b : Nat => AV.int (b : Int)) (xs := rngN n) (fun b => decide (n % b = 0)) nd (CI.is (ci_range2 c_int (c_add (c_var 0) c_int) (by omega) (by omega) T.range) (by rw [show ((n : Int) + 1 - 1).toNat = n by omega, rng_rngN])) (by rw [rngN_len]; omega)
    (fun b hb _ _ _ _ _ => cts_one (CT.is (ct_eq (c_mod (c_var 0) (c_var 1) (by have := mem_rngN.mp hb; omega)) c_int) (dec_mod n b))) (fun b hb _ _ _ _ _ _ => c_var 1)) rfl)

theorem scFree : FnScope ["number", "other"] ["number"] (defScope s_free) := ⟨rfl, rfl, rfl, by decide +kernel, rfl, by decide +kernel, by decide +kernel⟩
def RFree (as : List AV) (a : AV) : Prop := ∃ (n : Nat), as = [.int n] ∧ n ≤ 1000 ∧ a = .int (phiN n : Nat)
theorem ok_free (F : Fun K "free" "free" s_free f fd) (T : Tops mg) (G : Has P w K mg base "common" 1 (spA RCommon_common)) : FnOk P w K mg base CX0 2 f fd ["number"] (spA RFree) := by
  refine okA F scFree (fun as l ⟨_, h, _⟩ => by rw [h]; rfl) fun cdv A outer s H E hr as a ⟨n, h, hn, ha⟩ => ?_
  subst h ha
  have nd : (["number", "other"] : List Str).Nodup := scFree.nd
  refine css_one (cs_ret (CE.is (c_len T.len (CN.ce (cn_lc1 1 (φ := fun b : Nat => AV.int (b : Int)) (χ := fun b : Nat => AV.int (b : Int)) (xs := rngN n) (fun b => decide (Nat.gcd n b = 1)) nd (CI.is (ci_range2 c_int (c_add (c_var 0) c_int) (by omega) (by omega) T.range) (by rw [show ((n : Int) + 1 - 1).toNat = n by omega, rng_rngN])) (by rw [rngN_len]; omega)
    (fun b hb _ _ _ _ _ => cts_one (CT.is (ct_eq (c_call G hr (ca_cons (c_var 0) (ca_cons (c_var 1) ca_nil)) ⟨n, b, rfl, rfl⟩) c_int) (dec_one _))) (fun b hb _ _ _ _ _ _ => c_var 1)))) (by rw [List.length_map]; rfl)) rfl)

theorem scRings : FnScope ["colours", "length", "size"] ["colours", "length"] (defScope s_rings) := ⟨rfl, rfl, rfl, by decide +kernel, rfl, by decide +kernel, by decide +kernel⟩
def RRings (as : List AV) (a : AV) : Prop := ∃ (c : Int) (n : Nat), as = [.int c, .int n] ∧ Col c ∧ 1 ≤ n ∧ n ≤ 200 ∧ a = .int (ringsN c n)
theorem ok_rings (F : Fun K "rings" "rings" s_rings f fd) (T : Tops mg) (G1 : Has P w K mg base "asked_colours" 2 (spA RAskedColours)) (G2 : Has P w K mg base "asked_length" 2 (spA RAskedLength)) (G3 : Has P w K mg base "divisors" 1 (spN RDivisors)) (G4 : Has P w K mg base "free" 2 (spA RFree)) (G5 : Has P w K mg base "power" 1 (spA RPower_power)) :
    FnOk P w K mg base CX0 3 f fd ["colours", "length"] (spA RRings) := by
  refine okA F scRings (fun as l ⟨_, _, h, _⟩ => by rw [h]; rfl) fun cdv A outer s H E hr as a ⟨c, n, h, hc, h1, h2, ha⟩ => ?_
  subst h ha
  have nd : (["colours", "length", "size"] : List Str).Nodup := scRings.nd
  refine css_seq (cs_expr (c_call G1 hr (ca_cons (c_var 0) ca_nil) ⟨c, rfl, hc.1, rfl⟩) rfl) ?_
  refine css_seq (cs_expr (c_call G2 hr (ca_cons (c_var 1) ca_nil) ⟨n, rfl, by omega, by omega, rfl⟩) rfl) ?_
  refine css_one (cs_ret (c_fdiv (c_sum T.sum (CE.is (CN.ce (cn_lc1 2 (φ := fun b : Nat => AV.int (b : Int)) (χ := fun d : Nat => AV.int ((phiN (n / d) : Nat) * c ^ d)) (xs := divsN n) (fun _ => true) nd (ci_list (CN.ce (cn_call G3 (hr.mono (by decide)) (ca_cons (c_var 1) ca_nil) ⟨n, rfl, by omega, rfl⟩))) ?_ (fun _ _ _ _ _ _ _ => cts_nil)
    (fun d hd _ _ _ _ _ _ => ?_))) (b := .il ((divsN n).map fun d : Nat => (phiN (n / d) : Int) * c ^ d)) (by rw [filter_true, AV.il, List.map_map]; rfl))) (c_var 1) (wide_div (b := 30) (by omega) (by omega) (by decide) (by decide))) rfl)
  · have := List.length_filter_le (fun b => decide (n % b = 0)) (rngN n)
    rw [rngN_len] at this
    show (List.filter _ _).length ≤ _
    omega
  · have hd2 := mem_divsN.mp hd
    have hq : n / d ≤ n := Nat.div_le_self n d
    have hp := phiN_le (n / d)
    exact c_mul (c_call G4 hr (ca_cons (CE.is (c_fdiv (c_var 1) (c_var 2) (wide_div (b := 30) (by omega) (by omega) (by decide) (by decide))) (b := .int ((n / d : Nat) : Int)) rfl) ca_nil) ⟨n / d, rfl, by omega, rfl⟩) (c_call G5 (hr.mono (by decide)) (ca_cons (c_var 0) (ca_cons (c_var 2) ca_nil)) ⟨c, d, rfl, hc, by omega, rfl⟩) (mul_left (by omega) (by omega))

def RRingsX (K : PySem.W.Frag) (as : List AV) (C : Addr) : Prop := (∃ a b, as = [a, b] ∧ NoCol K a ∧ C = He.ga K "BadColours") ∨ ∃ (c : Int) (b : AV), as = [.int c, b] ∧ 1 ≤ c ∧ NoLen K b ∧ C = He.ga K "BadLength"
theorem ok_ringsX (F : Fun K "rings" "rings" s_rings f fd) (G1 : Has P w K mg base "asked_colours" 2 (spA RAskedColours)) (X1 : HasX P w K mg base "asked_colours" 2 (spX (RNoCol K))) (X2 : HasX P w K mg base "asked_length" 2 (spX (RNoLen K))) : FnOk P w K mg base (L2.CX P w) 3 f fd ["colours", "length"] (spX (RRingsX K)) := by
  refine okR F scRings (fun as C h => by rcases h with ⟨_, _, h, _⟩ | ⟨_, _, h, _⟩ <;> rw [h] <;> rfl) fun cdv A outer s H E hr tk as C h => ?_
  rcases h with ⟨a, b, h, hR, hC⟩ | ⟨c, b, h, hc, hR, hC⟩
  · subst h hC
    exact rss_head (rs_expr (re_call X1 tk hr (ca_cons (c_var 0) ca_nil) ⟨a, rfl, hR, rfl⟩))
  · subst h hC
    refine rss_seq (cs_expr (c_call G1 hr (ca_cons (c_var 0) ca_nil) ⟨c, rfl, hc, rfl⟩) rfl) ?_
    exact rss_head (rs_expr (re_call X2 tk hr (ca_cons (c_var 1) ca_nil) ⟨b, rfl, hR, rfl⟩))

theorem scOfPeriodX : FnScope ["colours", "length", "size"] ["colours", "length", "size"] (defScope s_of_period) := ⟨rfl, rfl, rfl, by decide +kernel, rfl, by decide +kernel, by decide +kernel⟩
def ROfPeriodX (K : PySem.W.Frag) (as : List AV) (C : Addr) : Prop := (∃ a b d, as = [a, b, d] ∧ NoCol K a ∧ C = He.ga K "BadColours") ∨ (∃ (c : Int) (b d : AV), as = [.int c, b, d] ∧ 1 ≤ c ∧ NoLen K b ∧ C = He.ga K "BadLength") ∨
  ∃ (c n : Int) (d : AV), as = [.int c, .int n, d] ∧ 1 ≤ c ∧ 1 ≤ n ∧ n ≤ 200 ∧ NoCol K d ∧ C = He.ga K "BadNumber"
theorem ok_of_periodX (F : Fun K "of_period" "of_period" s_of_period f fd) (G0 : Has P w K mg base "is_number" 1 (spA (RIsNumX K))) (G1 : Has P w K mg base "asked_colours" 2 (spA RAskedColours)) (X1 : HasX P w K mg base "asked_colours" 2 (spX (RNoCol K))) (G2 : Has P w K mg base "asked_length" 2 (spA RAskedLength)) (X2 : HasX P w K mg base "asked_length" 2 (spX (RNoLen K))) (eN : Err K mg "BadNumber") :
    FnOk P w K mg base (L2.CX P w) 3 f fd ["colours", "length", "size"] (spX (ROfPeriodX K)) := by
  refine okR F scOfPeriodX (fun as C h => by rcases h with ⟨_, _, _, h, _⟩ | ⟨_, _, _, h, _⟩ | ⟨_, _, _, h, _⟩ <;> rw [h] <;> rfl) fun cdv A outer s H E hr tk as C h => ?_
  rcases h with ⟨a, b, d, h, hR, hC⟩ | ⟨c, b, d, h, hc, hR, hC⟩ | ⟨c, n, d, h, hc, h1, h2, hR, hC⟩
  · subst h hC
    exact rss_head (rs_expr (re_call X1 tk hr (ca_cons (c_var 0) ca_nil) ⟨a, rfl, hR, rfl⟩))
  · subst h hC
    refine rss_seq (cs_expr (c_call G1 hr (ca_cons (c_var 0) ca_nil) ⟨c, rfl, hc, rfl⟩) rfl) ?_
    exact rss_head (rs_expr (re_call X2 tk hr (ca_cons (c_var 1) ca_nil) ⟨b, rfl, hR, rfl⟩))
  · subst h hC
    refine rss_seq (cs_expr (c_call G1 hr (ca_cons (c_var 0) ca_nil) ⟨c, rfl, hc, rfl⟩) rfl) ?_
    refine rss_seq (cs_expr (c_call G2 hr (ca_cons (c_var 1) ca_nil) ⟨n, rfl, h1, h2, rfl⟩) rfl) ?_
    cases hR with
    | ty hn => exact rss_head (rs_if (b := true) (CT.is (CW.ct (cw_or (d := true) (ct_not (ct_val (c_call G0 (hr.mono (by decide)) (ca_cons (c_var 2) ca_nil) ⟨d, false, rfl, isNm_no hn, rfl⟩))) fun h => by cases h)) rfl) (fun _ => rss_head (rs_raise eN.k tk)) fun h => by cases h)
    | @int i hi => exact rss_head (rs_if (b := true) (CT.is (CW.ct (cw_or (ct_not (ct_val (c_call G0 (hr.mono (by decide)) (ca_cons (c_var 2) ca_nil) ⟨.int i, true, rfl, isNm_int i, rfl⟩))) fun _ => cw_or1 (ct_lt (c_var 2) c_int))) (by rw [decide_eq_true hi]; rfl)) (fun _ => rss_head (rs_raise eN.k tk)) fun h => by cases h)

theorem scAskedColoured : FnScope ["colours", "ring"] ["colours", "ring"] (defScope s_asked_coloured) := ⟨rfl, rfl, rfl, by decide +kernel, rfl, by decide +kernel, by decide +kernel⟩
def RAskedColoured (as : List AV) (a : AV) : Prop := ∃ (c : Int) (n : Nat) (r : List Int), as = [.int c, .il r] ∧ Wd c n r ∧ 1 ≤ n ∧ n ≤ 200 ∧ 1 ≤ c ∧ a = .non
theorem ok_asked_coloured (F : Fun K "asked_coloured" "asked_coloured" s_asked_coloured f fd) (T : Tops mg) (G1 : Has P w K mg base "asked_colours" 2 (spA RAskedColours)) (G2 : Has P w K mg base "asked_ring" 2 (spA RAskedRing)) : FnOk P w K mg base CX0 3 f fd ["colours", "ring"] (spA RAskedColoured) := by
  refine okA F scAskedColoured (fun as l ⟨_, _, _, h, _⟩ => by rw [h]; rfl) fun cdv A outer s H E hr as a ⟨c, n, r, h, hw, h1, h2, hc, ha⟩ => ?_
  subst h ha
  have hne := wd_ne hw h1
  refine css_seq (cs_expr (c_call G1 hr (ca_cons (c_var 0) ca_nil) ⟨c, rfl, hc, rfl⟩) rfl) ?_
  refine css_seq (cs_expr (c_call G2 hr (ca_cons (c_var 1) ca_nil) ⟨r, rfl, wd_ring hw h1 h2, rfl⟩) rfl) ?_
  refine css_one (cs_if (b := false) (CT.is (ct_ge (c_max T.max (c_var 1) hne) (c_var 0)) (decide_eq_false ?_)) (fun h => by cases h) fun _ => css_nil rfl)
  have := (hw.mem _ (maxI_ex hne).1).2
  omega

def RNoRow (K : PySem.W.Frag) (as : List AV) (C : Addr) : Prop := (∃ a b, as = [a, b] ∧ NoCol K a ∧ C = He.ga K "BadColours") ∨ (∃ (c : Int) (b : AV), as = [.int c, b] ∧ 1 ≤ c ∧ NoRing K b ∧ C = He.ga K "BadRing") ∨
  ∃ (c : Int) (r : List Int), as = [.int c, .il r] ∧ 1 ≤ c ∧ Ring r ∧ c ≤ maxI r ∧ C = He.ga K "BadRing"
theorem RNoRow.len {K : PySem.W.Frag} {as : List AV} {C : Addr} (h : RNoRow K as C) : as.length = 2 := by rcases h with ⟨_, _, h, _⟩ | ⟨_, _, h, _⟩ | ⟨_, _, h, _⟩ <;> rw [h] <;> rfl
theorem RNoRow.two {K : PySem.W.Frag} {as : List AV} {C : Addr} (h : RNoRow K as C) : ∃ a b, as = [a, b] := by rcases h with ⟨_, _, h, _⟩ | ⟨_, _, h, _⟩ | ⟨_, _, h, _⟩ <;> exact ⟨_, _, h⟩
theorem ok_asked_colouredX (F : Fun K "asked_coloured" "asked_coloured" s_asked_coloured f fd) (T : Tops mg) (G1 : Has P w K mg base "asked_colours" 2 (spA RAskedColours)) (X1 : HasX P w K mg base "asked_colours" 2 (spX (RNoCol K))) (G2 : Has P w K mg base "asked_ring" 2 (spA RAskedRing)) (X2 : HasX P w K mg base "asked_ring" 2 (spX (RNoRing K))) (eR : Err K mg "BadRing") :
    FnOk P w K mg base (L2.CX P w) 3 f fd ["colours", "ring"] (spX (RNoRow K)) := by
  refine okR F scAskedColoured (fun as C h => h.len) fun cdv A outer s H E hr tk as C h => ?_
  rcases h with ⟨a, b, h, hR, hC⟩ | ⟨c, b, h, hc, hR, hC⟩ | ⟨c, r, h, hc, hR, hm, hC⟩
  · subst h hC
    exact rss_head (rs_expr (re_call X1 tk hr (ca_cons (c_var 0) ca_nil) ⟨a, rfl, hR, rfl⟩))
  · subst h hC
    refine rss_seq (cs_expr (c_call G1 hr (ca_cons (c_var 0) ca_nil) ⟨c, rfl, hc, rfl⟩) rfl) ?_
    exact rss_head (rs_expr (re_call X2 tk hr (ca_cons (c_var 1) ca_nil) ⟨b, rfl, hR, rfl⟩))
  · subst h hC
    refine rss_seq (cs_expr (c_call G1 hr (ca_cons (c_var 0) ca_nil) ⟨c, rfl, hc, rfl⟩) rfl) ?_
    refine rss_seq (cs_expr (c_call G2 hr (ca_cons (c_var 1) ca_nil) ⟨r, rfl, hR, rfl⟩) rfl) ?_
    exact rss_head (rs_if (b := true) (CT.is (ct_ge (c_max T.max (c_var 1) hR.ne) (c_var 0)) (decide_eq_true hm)) (fun _ => rss_head (rs_raise eR.k tk)) fun h => by cases h)

theorem scShares : FnScope ["size", "many"] ["size"] (defScope s_shares) := ⟨rfl, rfl, rfl, by decide +kernel, rfl, by decide +kernel, by decide +kernel⟩
def RShares (as : List AV) (a : AV) : Prop := ∃ (n : Nat), as = [.int n] ∧ 1 ≤ n ∧ n ≤ 200 ∧ a = .lst (shareL n)
theorem ok_shares (F : Fun K "shares" "shares" s_shares f fd) (T : Tops mg) (G1 : Has P w K mg base "divisors" 1 (spN RDivisors)) (G2 : Has P w K mg base "free" 2 (spA RFree)) : FnOk P w K mg base CX0 3 f fd ["size"] (spA RShares) := by
  refine okA F scShares (fun as l ⟨_, h, _⟩ => by rw [h]; rfl) fun cdv A outer s H E hr as a ⟨n, h, h1, h2, ha⟩ => ?_
  subst h ha
  have nd : (["size", "many"] : List Str).Nodup := scShares.nd
  have hdl := divs_len n
  refine css_one (cs_ret (CE.is (CN.ce (cn_lc1 1 (φ := fun b : Nat => AV.int (b : Int)) (χ := fun d : Nat => .tup [.int (d : Int), .int ((phiN (n / d) : Nat) : Int)]) (xs := divsN n) (fun _ => true) nd (ci_list (CN.ce (cn_call G1 (hr.mono (by decide)) (ca_cons (c_var 0) ca_nil) ⟨n, rfl, by omega, rfl⟩))) (by omega) (fun _ _ _ _ _ _ _ => cts_nil) (fun d hd _ _ _ _ _ _ => ?_))) (by rw [filter_true]; rfl)) rfl)
  have hd2 := mem_divsN.mp hd
  have hq : n / d ≤ n := Nat.div_le_self n d
  exact c_tup (ca_cons (c_var 1) (ca_cons (c_call G2 hr (ca_cons (CE.is (c_fdiv (c_var 0) (c_var 1) (wide_div (b := 30) (by omega) (by omega) (by decide) (by decide))) (b := .int ((n / d : Nat) : Int)) rfl) ca_nil) ⟨n / d, rfl, by omega, rfl⟩) ca_nil))

abbrev greaterS : List Str := ["colours", "row", "parts", "size", "more", "bead", "ways", "many", "part", "found", "turns"]
theorem scGreater : FnScope greaterS ["colours", "row", "parts"] (defScope s_greater) := ⟨rfl, rfl, rfl, by decide +kernel, rfl, by decide +kernel, by decide +kernel⟩
def RGreater (as : List AV) (a : AV) : Prop := ∃ (c n : Nat) (row : List Int), as = [.int c, .il row, .lst (shareL n)] ∧ Col c ∧ Wd c n row ∧ 1 ≤ n ∧ n ≤ 200 ∧ a = .int (greaterN c row)
theorem ok_greater (F : Fun K "greater" "greater" s_greater f fd) (T : Tops mg) : FnOk P w K mg base CX0 1 f fd ["colours", "row", "parts"] (spA RGreater) := by
  refine okA F scGreater (fun as l ⟨_, _, _, h, _⟩ => by rw [h]; rfl) fun cdv A outer s H E hr as a ⟨c, n, row, h, hc, hw, h1, h2, ha⟩ => ?_
  subst h ha
  have nd : greaterS.Nodup := scGreater.nd
  have hl := hw.len
  refine css_seq (cs_set 3 nd (CE.is (c_lenI T.len (c_var 1)) (b := .int (n : Nat)) (by rw [hl])) rfl) ?_
  refine css_seq (cs_set 4 nd (CE.is (CN.ce (cn_lc1 5 (φ := AV.int) (χ := fun b => AV.int ((c : Int) - 1 - b)) (xs := row) (fun _ => true) nd (ci_list (c_var 1)) (by omega) (fun _ _ _ _ _ _ _ => cts_nil) (fun b hb _ _ _ _ _ _ => c_sub (c_sub (c_var 0) c_int) (c_var 5)))) (b := .il (moreF c row)) (by rw [filter_true, moreF, AV.il, List.map_map]; rfl)) rfl) ?_
  have hml : (moreF c row).length = n := by unfold moreF; rw [List.length_map]; exact hl
  refine css_seq (cs_setO 6 nd (CN.is (cn_lst (ca_cons c_int ca_nil)) (m := (wayL (moreF c row) 0).map AV.int) rfl) rfl) ?_
  -- the ways
  refine css_cut (fun τ' => ∃ x, τ' = [some (.val (.int c)), some (.val (.il row)), some (.val (.lst (shareL n))), some (.val (.int n)), some (.val (.il (moreF c row))), none, some (.own ((wayL (moreF c row) n).map AV.int)), x, none, none, none])
    (cs_forN 7 (xs := rngN n) (φ := fun b : Nat => AV.int (b : Int)) (fun i τ' => ∃ x, τ' = [some (.val (.int c)), some (.val (.il row)), some (.val (.lst (shareL n))), some (.val (.int n)), some (.val (.il (moreF c row))), none, some (.own ((wayL (moreF c row) i).map AV.int)), x, none, none, none]) nd
      (CI.is (ci_range2 c_int (c_add (c_var 3) c_int) (by omega) (by omega) T.range) (by rw [show ((n : Int) + 1 - 1).toNat = n by omega, rng_rngN])) ⟨_, rfl⟩ (fun i b τ1 hb _ hI => ?_) fun τ' h => by rw [rngN_len] at h; exact h) ?_
  · obtain ⟨x, rfl⟩ := hI
    have hi := (List.getElem?_eq_some_iff.mp hb).1
    rw [rngN_len] at hi
    have eb : b = i + 1 := by
      unfold rngN at hb
      rw [List.getElem?_map, List.getElem?_range hi] at hb
      simp at hb; omega
    subst eb
    have hwl := wayL_len (moreF c row) i
    refine css_one (cs_app 6 (l := (wayL (moreF c row) i).map AV.int) (a := .int ((List.range (i + 1)).map fun p => g (moreF c row) p * g (wayL (moreF c row) i) (i + 1 - p - 1)).sum) (ce_own 6 (c_sum T.sum (CE.is (CN.ce (cn_lc1 8 (φ := fun p : Nat => AV.int (p : Int)) (χ := fun p : Nat => AV.int (g (moreF c row) p * g (wayL (moreF c row) i) (i + 1 - p - 1))) (xs := List.range (i + 1)) (fun _ => true) nd
      (CI.is (ci_range1 (c_var 7) (by omega) T.range) (by rw [Int.toNat_natCast, rng_range])) (by rw [List.length_range]; omega) (fun _ _ _ _ _ _ _ => cts_nil) (fun p hp _ _ _ _ _ _ => ?_))) (b := .il ((List.range (i + 1)).map fun p => g (moreF c row) p * g (wayL (moreF c row) i) (i + 1 - p - 1))) (by rw [filter_true, AV.il, List.map_map]; rfl)))) (by rw [List.length_map, hwl]; omega) ⟨some (.val (.int ((i + 1 : Nat) : Int))), ?_⟩)
    · rw [List.mem_range] at hp
      refine CE.is (c_mul (CE.is (c_ix (c_var 4) (c_var 8) (atI_nth (ns := moreF c row) (by omega) (by rw [hml]; omega))) (b := .int (g (moreF c row) p)) (by rw [nth_g])) (CE.is (c_ix (c_var 6) (c_sub (c_sub (c_var 7) (c_var 8)) c_int) (atI_nth (ns := wayL (moreF c row) i) (by omega) (by rw [hwl]; omega))) (b := .int (g (wayL (moreF c row) i) (i + 1 - p - 1))) ?_) (way_mul1 hc hw (by omega) (by omega) (by omega) h2)) rfl
      rw [show ((i + 1 : Nat) : Int) - (p : Int) - 1 = ((i + 1 - p - 1 : Nat) : Int) by omega, nth_g]
    · rw [show wayL (moreF c row) (i + 1) = wayL (moreF c row) i ++ [((List.range (i + 1)).map fun p => g (moreF c row) p * g (wayL (moreF c row) i) (i + 1 - p - 1)).sum] from rfl, List.map_append]; rfl
  rintro τ' ⟨x, rfl⟩
  refine css_fix 6 ?_
  refine css_seq (cs_set 9 nd (CE.is c_int (b := .int (((([] : List Nat)).map fun d => (phiN (n / d) : Int) * ((List.range d).map fun p : Nat => ((p : Int) + 1) * g (moreF c row) p * g (wayL (moreF c row) n) (d - p - 1)).sum).sum)) rfl) rfl) ?_
  have hwl := wayL_len (moreF c row) n
  refine css_cut (fun τ' => ∃ y z, τ' = [some (.val (.int c)), some (.val (.il row)), some (.val (.lst (shareL n))), some (.val (.int n)), some (.val (.il (moreF c row))), none, some (.val (.il (wayL (moreF c row) n))), y, none, some (.val (.int (grSum c row))), z])
    (cs_forM (xs := divsN n) (φ := fun d : Nat => .tup [.int (d : Int), .int ((phiN (n / d) : Nat) : Int)]) (fun i τ' => ∃ y z, τ' = [some (.val (.int c)), some (.val (.il row)), some (.val (.lst (shareL n))), some (.val (.int n)), some (.val (.il (moreF c row))), none, some (.val (.il (wayL (moreF c row) n))), y, none, some (.val (.int (((divsN n).take i).map fun d => (phiN (n / d) : Int) * ((List.range d).map fun p : Nat => ((p : Int) + 1) * g (moreF c row) p * g (wayL (moreF c row) n) (d - p - 1)).sum).sum)), z])
      (ci_list (c_var 2)) (pg_tup rfl (pgs_cons (pg_name (i := 7) nd rfl (Or.inr rfl)) (pgs_cons (pg_name (i := 10) nd rfl (Or.inl rfl)) pgs_nil))) ⟨_, _, rfl⟩ (fun i d τ1 hid hd hI => ?_) fun τ' ⟨y, z, h⟩ => ⟨y, z, by rw [h, List.take_length, grSum, hl]⟩) ?_
  · obtain ⟨y, z, rfl⟩ := hI
    have hd2 := mem_divsN.mp hd
    have hphi := phiN_le (n / d)
    have hq : n / d ≤ n := Nat.div_le_self n d
    refine ⟨_, ga_tup2 7 10, ?_⟩
    refine css_one (cs_set 9 nd (c_add (c_var 9) (c_mul (c_var 10) (c_sum T.sum (CE.is (CN.ce (cn_lc1 8 (φ := fun p : Nat => AV.int (p : Int)) (χ := fun p : Nat => AV.int (((p : Int) + 1) * g (moreF c row) p * g (wayL (moreF c row) n) (d - p - 1))) (xs := List.range d) (fun _ => true) nd
      (CI.is (ci_range1 (c_var 7) (by omega) T.range) (by rw [Int.toNat_natCast, rng_range])) (by rw [List.length_range]; omega) (fun _ _ _ _ _ _ _ => cts_nil) (fun p hp _ _ _ _ _ _ => ?_))) (b := .il ((List.range d).map fun p : Nat => ((p : Int) + 1) * g (moreF c row) p * g (wayL (moreF c row) n) (d - p - 1))) (by rw [filter_true, AV.il, List.map_map]; rfl))) (mul_left (by omega) (by omega)))) ⟨some (.val (.int (d : Int))), some (.val (.int ((phiN (n / d) : Nat) : Int))), ?_⟩)
    · rw [List.mem_range] at hp
      refine c_mul (c_mul (c_add (c_var 8) c_int) (CE.is (c_ix (c_var 4) (c_var 8) (atI_nth (ns := moreF c row) (by omega) (by rw [hml]; omega))) (b := .int (g (moreF c row) p)) (by rw [nth_g])) (mul_left (by omega) (by omega))) (CE.is (c_ix (c_var 6) (c_sub (c_sub (c_var 7) (c_var 8)) c_int) (atI_nth (ns := wayL (moreF c row) n) (by omega) (by rw [hwl]; omega))) (b := .int (g (wayL (moreF c row) n) (d - p - 1))) ?_) ?_
      · rw [show (d : Int) - (p : Int) - 1 = ((d - p - 1 : Nat) : Int) by omega, nth_g]
      · have := way_mul (k := p + 1) (m := n) (j := d - p - 1) hc hw (show p < n by omega) (by omega) (Nat.le_refl _) h2 (by omega)
        rw [show ((p + 1 : Nat) : Int) = (p : Int) + 1 by omega] at this
        exact this
    · rw [show (divsN n).take (i + 1) = (divsN n).take i ++ [d] by rw [List.take_succ, hid]; rfl, sm_app]
      simp only [List.map_cons, List.map_nil, List.sum_cons, List.sum_nil, Int.add_zero]
      rfl
  rintro τ' ⟨y, z, rfl⟩
  refine css_one (cs_ret (CE.is (c_fdiv (c_var 9) (c_var 3) (wide_div (b := 30) (by omega) (by omega) (by decide) (by decide))) ?_) rfl)
  unfold greaterN
  rw [hl]

abbrev floorS : List Str := ["colours", "row", "now", "size", "by", "at"]
theorem scFloorRow : FnScope floorS ["colours", "row"] (defScope s_floor_row) := ⟨rfl, rfl, rfl, by decide +kernel, rfl, by decide +kernel, by decide +kernel⟩
def RFloorRow (as : List AV) (l : List AV) : Prop := ∃ (c n : Nat) (row r : List Int), as = [.int c, .il row] ∧ Wd c n row ∧ 1 ≤ n ∧ n ≤ 200 ∧ 1 ≤ c ∧ IsFloor c n row r ∧ l = r.map AV.int
theorem ok_floor_row (F : Fun K "floor_row" "floor_row" s_floor_row f fd) (T : Tops mg) : FnOk P w K mg base CX0 1 f fd ["colours", "row"] (spN RFloorRow) := by
  refine okN F scFloorRow (fun as l ⟨_, _, _, _, h, _⟩ => by rw [h]; rfl) fun cdv A outer s H E hr as l ⟨c, n, row, r, h, hw, h1, h2, hc, hr', hl⟩ => ?_
  subst h hl
  have nd : floorS.Nodup := scFloorRow.nd
  have hlr := hw.len
  refine css_seq (cs_setO 2 nd (cn_list T.list (c_var 1)) rfl) ?_
  refine css_seq (cs_set 3 nd (CE.is (c_lenI T.len (c_var 1)) (b := .int (n : Nat)) (by rw [hlr])) rfl) ?_
  refine css_one (cs_while (fun m τ' => ∃ now x y, (val c now).toNat = m ∧ Wd c n now ∧ (∀ x, Wd c n x → Nec n (g x) → ¬ LT n (g row) (g x) → ¬ LT n (g now) (g x)) ∧ ¬ LT n (g row) (g now) ∧ τ' = [some (.val (.int c)), some (.val (.il row)), some (.own (now.map AV.int)), some (.val (.int n)), x, y]) (val c row).toNat ⟨row, _, _, rfl, hw, fun x _ _ q => q, LT.irrefl, rfl⟩ fun m τ' hI => ?_)
  obtain ⟨now, x, y, hm, hwn, hall, hle, rfl⟩ := hI
  have hln := hwn.len
  refine ⟨true, ct_val c_bl, fun _ => ?_, fun h => by cases h⟩
  refine css_seq (cs_set 4 nd c_int rfl) ?_
  refine css_seq (cs_set 5 nd c_int rfl) ?_
  -- the scan
  refine css_cut (fun τ' => ∃ a b : Nat, PL (g now) a b ∧ a ≤ n ∧ (a < n → g now a < g now (a - b)) ∧ τ' = [some (.val (.int c)), some (.val (.il row)), some (.own (now.map AV.int)), some (.val (.int n)), some (.val (.int b)), some (.val (.int a))])
    (cs_while (fun k τ' => ∃ a b : Nat, k = n - a ∧ PL (g now) a b ∧ a ≤ n ∧ τ' = [some (.val (.int c)), some (.val (.il row)), some (.own (now.map AV.int)), some (.val (.int n)), some (.val (.int b)), some (.val (.int a))]) (n - 1) ⟨1, 1, rfl, PL.one _, h1, rfl⟩ fun k τ' hJ => ?_) ?_
  · obtain ⟨a, b, hk, pl, ha, rfl⟩ := hJ
    have hb := pl.ly.1
    have hba := pl.le
    have getA : ∀ {X : Cx} {τ : Tau} {e : Expr} {pn po : Pos} {i : Nat}, CE X (.Name "now" pn) τ (.il now) → CE X e τ (.int (i : Int)) → i < n → PlainIx e → CE X (.Subscript (.Name "now" pn) e po) τ (.int (g now i)) := fun h1 h2 hi hs => CE.is (c_ix h1 h2 (atI_nth (ns := now) (by omega) (by omega)) hs) (by rw [nth_g])
    refine ⟨decide ((a : Int) < (n : Int)) && decide (g now (a - b) ≤ g now a), ct_own 2 (CW.ct (cw_and (ct_lt (c_var 5) (c_var 3)) fun h => cw_and1 ?_)), fun h => ?_, fun h => ?_⟩
    · have han : a < n := by simpa using h
      exact ct_ge (getA (c_var 2) (c_var 5) han (fun _ _ => rfl)) (getA (c_var 2) (CE.is (c_sub (c_var 5) (c_var 4)) (b := .int ((a - b : Nat) : Int)) (by congr 1; omega)) (by omega) (fun _ _ => rfl))
    · obtain ⟨g1, g2⟩ := Bool.and_eq_true_iff.mp h
      have han : a < n := by simpa using g1
      have g2 := of_decide_eq_true g2
      refine css_seq (cs_set 4 nd (ce_own 2 (c_if (a := .int ((if g now a = g now (a - b) then b else a + 1 : Nat) : Int)) (ct_eq (getA (c_var 2) (c_var 5) han (fun _ _ => rfl)) (getA (c_var 2) (CE.is (c_sub (c_var 5) (c_var 4)) (b := .int ((a - b : Nat) : Int)) (by congr 1; omega)) (by omega) (fun _ _ => rfl))) (fun q => CE.is (c_var 4) (by rw [if_pos (of_decide_eq_true q)])) (fun q => CE.is (c_add (c_var 5) c_int) (by rw [if_neg (of_decide_eq_false q)]; rfl)))) rfl) ?_
      refine css_one (cs_set 5 nd (CE.is (c_add (c_var 5) c_int) (b := .int ((a + 1 : Nat) : Int)) rfl) ⟨n - (a + 1), by omega, a + 1, (if g now a = g now (a - b) then b else a + 1), rfl, ?_, by omega, rfl⟩)
      by_cases q : g now a = g now (a - b)
      · rw [if_pos q]; exact pl.same q
      · rw [if_neg q]; exact pl.upl (by omega)
    · refine ⟨a, b, pl, ha, fun han => ?_, rfl⟩
      rw [decide_eq_true (show (a : Int) < (n : Int) by omega), Bool.true_and] at h
      have := of_decide_eq_false h
      omega
  rintro τ' ⟨a, b, pl, ha, hlow, rfl⟩
  have hb := pl.ly.1
  have hba := pl.le
  refine css_cut (fun τ' => ¬ (a = n ∧ n % b = 0) ∧ τ' = [some (.val (.int c)), some (.val (.il row)), some (.own (now.map AV.int)), some (.val (.int n)), some (.val (.int b)), some (.val (.int a))])
    (cs_if (CW.ct (cw_and (ct_eq (c_var 5) (c_var 3)) fun _ => cw_and1 (CT.is (ct_eq (c_mod (c_var 3) (c_var 4) (by omega)) c_int) (dec_mod n b)))) (fun h => ?_) (fun h => css_nil ⟨fun z => ?_, rfl⟩)) ?_
  · obtain ⟨g1, g2⟩ := Bool.and_eq_true_iff.mp h
    have e1 : a = n := by have := of_decide_eq_true g1; omega
    have e2 := of_decide_eq_true g2
    subst e1
    have fl : IsFloor c a row now := ⟨hwn, pl.nec e2, hle, hall⟩
    refine css_one (cs_retO 2 ?_)
    rw [hr'.uniq fl]
  · rw [decide_eq_true (show (a : Int) = (n : Int) by omega), decide_eq_true z.2] at h
    cases h
  rintro τ' ⟨hno, rfl⟩
  obtain ⟨d1, d2, d3⟩ := down_ok (c := (c : Int)) (by omega) hwn ⟨pl, ha, hno, hlow⟩
  refine css_one (cs_setO 2 nd (cn_ownI 2 (sh0 := .bare) (ls0 := [now.map AV.int]) (ns := down c n b now) (CN.is (cn_cat (CN.ce (cn_cat (CN.ce (cn_slice (c_var 2) co_none (co_some (c_sub (c_var 4) c_int)))) (CN.ce (cn_lst (ca_cons (c_sub (CE.is (c_ix (c_var 2) (c_sub (c_var 4) c_int) (atI_nth (ns := now) (by omega) (by omega))) (b := .int (g now (b - 1))) ?_) c_int) ca_nil))) ?_)) (CN.ce (cn_rep (CN.ce (cn_lst (ca_cons (c_sub (c_var 0) c_int) ca_nil))) (c_sub (c_var 3) (c_var 4)) (by omega) ?_)) ?_) ?_)) ⟨(val c (down c n b now)).toNat, by rw [← hm]; exact d1.val_lt hwn d2, down c n b now, _, _, rfl, d1, fun x hx hn hq => d3 x hx hn (hall x hx hn hq), fun q => hle (q.trans d2), rfl⟩)
  · rw [show (b : Int) - 1 = ((b - 1 : Nat) : Int) by omega, nth_g]
  · rw [cut_toI _ (by omega)]; simp; omega
  · simp; omega
  · rw [cut_toI _ (by omega), List.length_append, rep_len]; simp; omega
  · rw [cut_toI _ (by omega)]
    unfold down rep
    rw [show ((b : Int) - 1).toNat = b - 1 by omega, show ((n : Int) - (b : Int)).toNat = n - b by omega, List.map_append, List.map_append, List.map_take, List.map_replicate]
    congr 1
    induction (n - b) with
    | zero => rfl
    | succ k ih => rw [List.replicate_succ, List.flatten_cons, ih, List.replicate_succ]; rfl

theorem scNumberOf : FnScope ["colours", "ring", "row"] ["colours", "ring"] (defScope s_number_of) := ⟨rfl, rfl, rfl, by decide +kernel, rfl, by decide +kernel, by decide +kernel⟩
def RNumberOf (as : List AV) (a : AV) : Prop := ∃ (c n : Nat) (r : List Int), as = [.int c, .il r] ∧ Col c ∧ Wd c n r ∧ 1 ≤ n ∧ n ≤ 200 ∧ a = .int (numberN c r)
theorem ok_number_of (F : Fun K "number_of" "number_of" s_number_of f fd) (T : Tops mg) (G1 : Has P w K mg base "asked_coloured" 3 (spA RAskedColoured)) (G2 : Has P w K mg base "turn_of" 1 (spN RTurnOf)) (G3 : Has P w K mg base "least_turn" 2 (spA RLeastTurn)) (G4 : Has P w K mg base "rings" 3 (spA RRings)) (G5 : Has P w K mg base "greater" 1 (spA RGreater)) (G6 : Has P w K mg base "shares" 3 (spA RShares)) :
    FnOk P w K mg base CX0 4 f fd ["colours", "ring"] (spA RNumberOf) := by
  refine okA F scNumberOf (fun as l ⟨_, _, _, h, _⟩ => by rw [h]; rfl) fun cdv A outer s H E hr as a ⟨c, n, r, h, hc, hw, h1, h2, ha⟩ => ?_
  subst h ha
  have nd : (["colours", "ring", "row"] : List Str).Nodup := scNumberOf.nd
  have hne := wd_ne hw h1
  have hl := hw.len
  refine css_seq (cs_expr (c_call G1 hr (ca_cons (c_var 0) (ca_cons (c_var 1) ca_nil)) ⟨c, n, r, rfl, hw, h1, h2, hc.1, rfl⟩) rfl) ?_
  refine css_seq (cs_set 2 nd (CE.is (CN.ce (cn_call G2 (hr.mono (by decide)) (ca_cons (c_var 1) (ca_cons (c_call G3 (hr.mono (by decide)) (ca_cons (c_var 1) ca_nil) ⟨r, rfl, hne, by omega, rfl⟩) ca_nil)) ⟨r, _, rfl, hne, by omega, rfl⟩)) (b := .il (leastR r)) (by rw [leastT_turn hne])) rfl) ?_
  refine css_one (cs_ret (CE.is (c_sub (c_sub (c_call G4 hr (ca_cons (c_var 0) (ca_cons (CE.is (c_lenI T.len (c_var 1)) (b := .int (n : Nat)) (by rw [hl])) ca_nil)) ⟨c, n, rfl, hc, h1, h2, rfl⟩) (c_call G5 (hr.mono (by decide)) (ca_cons (c_var 0) (ca_cons (c_var 2) (ca_cons (c_call G6 hr (ca_cons (CE.is (c_lenI T.len (c_var 1)) (b := .int (n : Nat)) (by rw [hl])) ca_nil) ⟨n, rfl, h1, h2, rfl⟩) ca_nil))) ⟨c, n, leastR r, rfl, hc, wd_least hw h1, h1, h2, rfl⟩)) c_int) ?_) rfl)
  unfold numberN
  rw [hl]

theorem ok_number_ofX (F : Fun K "number_of" "number_of" s_number_of f fd) (X1 : HasX P w K mg base "asked_coloured" 3 (spX (RNoRow K))) : FnOk P w K mg base (L2.CX P w) 4 f fd ["colours", "ring"] (spX (RNoRow K)) := by
  refine okR F scNumberOf (fun as C h => h.len) fun cdv A outer s H E hr tk as C h => ?_
  obtain ⟨a, b, e⟩ := h.two
  subst e
  exact rss_head (rs_expr (re_call X1 tk hr (ca_cons (c_var 0) (ca_cons (c_var 1) ca_nil)) h))

abbrev ringByS : List Str := ["colours", "length", "number", "whole", "parts", "found", "at", "low", "high", "middle", "row"]
theorem scRingBy : FnScope ringByS ["colours", "length", "number"] (defScope s_ring_by) := ⟨rfl, rfl, rfl, by decide +kernel, rfl, by decide +kernel, by decide +kernel⟩
def RRingBy (as : List AV) (l : List AV) : Prop := ∃ (c n k : Nat) (x : List Int), as = [.int c, .int n, .int k] ∧ Col c ∧ 1 ≤ n ∧ n ≤ 200 ∧ x ∈ necks c n ∧ rk c n x = k ∧ l = x.map AV.int
theorem ok_ring_by (F : Fun K "ring_by" "ring_by" s_ring_by f fd) (T : Tops mg) (G0 : Has P w K mg base "is_number" 1 (spA RIsNumber)) (G1 : Has P w K mg base "asked_colours" 2 (spA RAskedColours)) (G2 : Has P w K mg base "asked_length" 2 (spA RAskedLength)) (G4 : Has P w K mg base "rings" 3 (spA RRings)) (G5 : Has P w K mg base "greater" 1 (spA RGreater)) (G6 : Has P w K mg base "shares" 3 (spA RShares)) (G7 : Has P w K mg base "floor_row" 1 (spN RFloorRow)) :
    FnOk P w K mg base CX0 4 f fd ["colours", "length", "number"] (spN RRingBy) := by
  refine okN F scRingBy (fun as l ⟨_, _, _, _, h, _⟩ => by rw [h]; rfl) fun cdv A outer s H E hr as l ⟨c, n, k, x, h, hc, h1, h2, hx, hk, hl⟩ => ?_
  subst h hl
  have nd : ringByS.Nodup := scRingBy.nd
  have hxw := (mem_necks h1).mp hx
  have hxl := hxw.1.len
  have hkl := rk_lt h1 hx
  have hrn := necks_len (c := c) h1 h2
  have hc1 : 1 ≤ c := by have := hc.1; omega
  refine css_seq (cs_expr (c_call G1 (hr.mono (by decide)) (ca_cons (c_var 0) ca_nil) ⟨c, rfl, hc.1, rfl⟩) rfl) ?_
  refine css_seq (cs_expr (c_call G2 (hr.mono (by decide)) (ca_cons (c_var 1) ca_nil) ⟨n, rfl, by omega, by omega, rfl⟩) rfl) ?_
  refine css_seq (cs_set 3 nd (c_call G4 hr (ca_cons (c_var 0) (ca_cons (c_var 1) ca_nil)) ⟨c, n, rfl, hc, h1, h2, rfl⟩) rfl) ?_
  refine css_seq (cs_if (b := false) (CT.is (CW.ct (cw_or (ct_not (ct_val (c_call G0 (hr.mono (by decide)) (ca_cons (c_var 2) ca_nil) ⟨k, rfl, rfl⟩))) fun _ => cw_or1 (ct_not (ct_chain op_le op_lt c_int (c_var 2) (c_var 3) r_int r_int)))) (by rw [decide_eq_true (show (0 : Int) ≤ (k : Int) by omega), decide_eq_true (show (k : Int) < ringsN c n by omega)]; rfl)) (fun h => by cases h) fun _ => css_nil rfl) ?_
  refine css_seq (cs_set 4 nd (c_call G6 hr (ca_cons (c_var 1) ca_nil) ⟨n, rfl, h1, h2, rfl⟩) rfl) ?_
  refine css_seq (cs_setO 5 nd (CN.is (cn_lst ca_nil) (m := (x.take 0).map AV.int) rfl) rfl) ?_
  refine css_cut (fun τ' => ∃ y6 y7 y8 y9 y10, τ' = [some (.val (.int c)), some (.val (.int n)), some (.val (.int k)), some (.val (.int (ringsN c n))), some (.val (.lst (shareL n))), some (.own (x.map AV.int)), y6, y7, y8, y9, y10])
    (cs_forN 6 (xs := List.range n) (φ := fun i : Nat => AV.int (i : Int)) (fun i τ' => ∃ y6 y7 y8 y9 y10, τ' = [some (.val (.int c)), some (.val (.int n)), some (.val (.int k)), some (.val (.int (ringsN c n))), some (.val (.lst (shareL n))), some (.own ((x.take i).map AV.int)), y6, y7, y8, y9, y10]) nd
      (CI.is (ci_range1 (c_var 1) (by omega) T.range) (by rw [Int.toNat_natCast, rng_range])) ⟨_, _, _, _, _, rfl⟩ (fun i b τ1 hb _ hI => ?_) fun τ' h => by rw [List.length_range, List.take_of_length_le (by omega)] at h; exact h) ?_
  · obtain ⟨y6, y7, y8, y9, y10, rfl⟩ := hI
    have hin := (List.getElem?_eq_some_iff.mp hb).1
    rw [List.length_range] at hin
    have eb : b = i := by rw [List.getElem?_range hin] at hb; exact (Option.some.inj hb).symm
    subst eb
    have ht := hxw.1.lt b hin
    refine css_seq (cs_set 7 nd c_int rfl) ?_
    refine css_seq (cs_set 8 nd (c_sub (c_var 0) c_int) rfl) ?_
    refine css_cut (fun τ' => ∃ y8 y9 y10, τ' = [some (.val (.int c)), some (.val (.int n)), some (.val (.int k)), some (.val (.int (ringsN c n))), some (.val (.lst (shareL n))), some (.own ((x.take b).map AV.int)), some (.val (.int (b : Int))), some (.val (.int (g x b))), y8, y9, y10])
      (cs_while (fun m τ' => ∃ lo hi y9 y10, m = (hi - lo).toNat ∧ 0 ≤ lo ∧ lo ≤ g x b ∧ g x b ≤ hi ∧ hi < c ∧ τ' = [some (.val (.int c)), some (.val (.int n)), some (.val (.int k)), some (.val (.int (ringsN c n))), some (.val (.lst (shareL n))), some (.own ((x.take b).map AV.int)), some (.val (.int (b : Int))), some (.val (.int lo)), some (.val (.int hi)), y9, y10]) ((c : Int) - 1 - 0).toNat ⟨0, (c : Int) - 1, _, _, rfl, Int.le_refl _, ht.1, by omega, by omega, rfl⟩ fun m τ' hJ => ?_) ?_
    · obtain ⟨lo, hi, y9, y10, hm, l0, l1, l2, l3, rfl⟩ := hJ
      refine ⟨_, ct_lt (c_var 7) (c_var 8), fun h => ?_, fun h => ?_⟩
      · have hlh : lo < hi := of_decide_eq_true h
        obtain ⟨mid, hmid⟩ : ∃ mid, mid = (lo + hi) / 2 := ⟨_, rfl⟩
        have m0 : lo ≤ mid := by omega
        have m1 : mid < hi := by omega
        refine css_seq (cs_set 9 nd (CE.is (c_fdiv (c_add (c_var 7) (c_var 8)) c_int ⟨by decide, by decide⟩) (b := .int mid) (by rw [hmid])) rfl) ?_
        obtain ⟨X, hX⟩ : ∃ X, X = x.take b ++ [mid] ++ List.replicate (n - b - 1) ((c : Int) - 1) := ⟨_, rfl⟩
        have hp := prefix_le (m := mid) hxw.1 hin (by omega)
        rw [← hX] at hp
        obtain ⟨r, hr'⟩ := floor_ex h1 hc1 hp.1
        have hask := ask h1 h2 hp.1 hr' hx hk
        refine css_seq (cs_setO 10 nd (cn_ownI 5 (sh0 := .bare) (ls0 := [(x.take b).map AV.int]) (cn_call G7 (hr.mono (by decide)) (ca_cons (c_var 0) (ca_cons (CE.is (CN.ce (cn_cat (CN.ce (cn_cat (c_var 5) (CN.ce (cn_lst (ca_cons (c_var 9) ca_nil))) ?_)) (CN.ce (cn_rep (CN.ce (cn_lst (ca_cons (c_sub (c_var 0) c_int) ca_nil))) (c_sub (c_sub (c_var 1) (c_var 6)) c_int) (by omega) ?_)) ?_)) (b := .il X) ?_) ca_nil)) ⟨c, n, X, r, rfl, hp.1, h1, h2, hc1, hr', rfl⟩)) rfl) ?_
        · simp; omega
        · simp; omega
        · rw [List.length_append, rep_len]; simp; omega
        · rw [hX]
          unfold rep AV.il
          rw [show ((n : Int) - (b : Int) - 1).toNat = n - b - 1 by omega, List.map_append, List.map_append, List.map_replicate]
          congr 2
          induction (n - b - 1) with
          | zero => rfl
          | succ k ih => rw [List.replicate_succ, List.flatten_cons, ih, List.replicate_succ]; rfl
        refine css_fix 10 ?_
        refine css_one (cs_if (ct_gt (c_sub (c_var 3) (c_call G5 (hr.mono (by decide)) (ca_cons (c_var 0) (ca_cons (c_var 10) (ca_cons (c_var 4) ca_nil))) ⟨c, n, r, rfl, hc, hr'.wd, h1, h2, rfl⟩)) (c_var 2)) (fun q => ?_) (fun q => ?_))
        · have q2 := hp.2.mp (hask.mp (of_decide_eq_true q))
          exact css_one (cs_set 8 nd (c_var 9) ⟨(mid - lo).toNat, by omega, lo, mid, _, _, rfl, l0, l1, q2, by omega, rfl⟩)
        · have q2 : ¬ g x b ≤ mid := fun z => of_decide_eq_false q (hask.mpr (hp.2.mpr z))
          exact css_one (cs_set 7 nd (c_add (c_var 9) c_int) ⟨(hi - (mid + 1)).toNat, by omega, mid + 1, hi, _, _, rfl, by omega, by omega, l2, l3, rfl⟩)
      · have hlh : ¬ lo < hi := of_decide_eq_false h
        have e : lo = g x b := by omega
        subst e
        exact ⟨_, _, _, rfl⟩
    · rintro τ' ⟨y8, y9, y10, rfl⟩
      refine css_one (cs_app 5 (l := (x.take b).map AV.int) (c_var 7) (by rw [List.length_map, List.length_take]; omega) ⟨some (.val (.int (b : Int))), some (.val (.int (g x b))), y8, y9, y10, ?_⟩)
      have et : x.take (b + 1) = x.take b ++ [g x b] := by
        rw [List.take_succ]
        congr 1
        unfold g
        rw [List.getElem?_eq_getElem (show b < x.length by omega)]; rfl
      rw [et, List.map_append]
      rfl
  rintro τ' ⟨y6, y7, y8, y9, y10, rfl⟩
  exact css_one (cs_retO 5 rfl)

def RRingByX (K : PySem.W.Frag) (as : List AV) (C : Addr) : Prop := (∃ a b d, as = [a, b, d] ∧ NoCol K a ∧ C = He.ga K "BadColours") ∨ (∃ (c : Int) (b d : AV), as = [.int c, b, d] ∧ 1 ≤ c ∧ NoLen K b ∧ C = He.ga K "BadLength") ∨
  ∃ (c : Int) (n : Nat) (d : AV), as = [.int c, .int n, d] ∧ Col c ∧ 1 ≤ n ∧ n ≤ 200 ∧ NoNum K (ringsN c n) d ∧ C = He.ga K "BadNumber"
theorem ok_ring_byX (F : Fun K "ring_by" "ring_by" s_ring_by f fd) (G0 : Has P w K mg base "is_number" 1 (spA (RIsNumX K))) (G1 : Has P w K mg base "asked_colours" 2 (spA RAskedColours)) (X1 : HasX P w K mg base "asked_colours" 2 (spX (RNoCol K))) (G2 : Has P w K mg base "asked_length" 2 (spA RAskedLength)) (X2 : HasX P w K mg base "asked_length" 2 (spX (RNoLen K))) (G3 : Has P w K mg base "rings" 3 (spA RRings)) (eN : Err K mg "BadNumber") :
    FnOk P w K mg base (L2.CX P w) 4 f fd ["colours", "length", "number"] (spX (RRingByX K)) := by
  refine okR F scRingBy (fun as C h => by rcases h with ⟨_, _, _, h, _⟩ | ⟨_, _, _, h, _⟩ | ⟨_, _, _, h, _⟩ <;> rw [h] <;> rfl) fun cdv A outer s H E hr tk as C h => ?_
  have nd : ringByS.Nodup := scRingBy.nd
  rcases h with ⟨a, b, d, h, hR, hC⟩ | ⟨c, b, d, h, hc, hR, hC⟩ | ⟨c, n, d, h, hc, h1, h2, hR, hC⟩
  · subst h hC
    exact rss_head (rs_expr (re_call X1 tk (hr.mono (by decide)) (ca_cons (c_var 0) ca_nil) ⟨a, rfl, hR, rfl⟩))
  · subst h hC
    refine rss_seq (cs_expr (c_call G1 (hr.mono (by decide)) (ca_cons (c_var 0) ca_nil) ⟨c, rfl, hc, rfl⟩) rfl) ?_
    exact rss_head (rs_expr (re_call X2 tk (hr.mono (by decide)) (ca_cons (c_var 1) ca_nil) ⟨b, rfl, hR, rfl⟩))
  · subst h hC
    refine rss_seq (cs_expr (c_call G1 (hr.mono (by decide)) (ca_cons (c_var 0) ca_nil) ⟨c, rfl, hc.1, rfl⟩) rfl) ?_
    refine rss_seq (cs_expr (c_call G2 (hr.mono (by decide)) (ca_cons (c_var 1) ca_nil) ⟨n, rfl, by omega, by omega, rfl⟩) rfl) ?_
    refine rss_seq (cs_set 3 nd (c_call G3 hr (ca_cons (c_var 0) (ca_cons (c_var 1) ca_nil)) ⟨c, n, rfl, hc, h1, h2, rfl⟩) rfl) ?_
    cases hR with
    | ty hn => exact rss_head (rs_if (b := true) (CT.is (CW.ct (cw_or (d := true) (ct_not (ct_val (c_call G0 (hr.mono (by decide)) (ca_cons (c_var 2) ca_nil) ⟨d, false, rfl, isNm_no hn, rfl⟩))) fun h => by cases h)) rfl) (fun _ => rss_head (rs_raise eN.k tk)) fun h => by cases h)
    | @int i hi =>
      refine rss_head (rs_if (b := true) (CT.is (CW.ct (cw_or (ct_not (ct_val (c_call G0 (hr.mono (by decide)) (ca_cons (c_var 2) ca_nil) ⟨.int i, true, rfl, isNm_int i, rfl⟩))) fun _ => cw_or1 (ct_not (ct_chain op_le op_lt c_int (c_var 2) (c_var 3) r_int r_int)))) ?_) (fun _ => rss_head (rs_raise eN.k tk)) fun h => by cases h)
      rcases hi with hi | hi
      · rw [decide_eq_false (show ¬ (0 : Int) ≤ i by omega)]; rfl
      · rw [decide_eq_false (show ¬ i < ringsN c n by omega)]; simp

abbrev afterS : List Str := ["colours", "ring", "now", "size", "at", "start", "place"]
theorem scAfter : FnScope afterS ["colours", "ring"] (defScope s_after) := ⟨rfl, rfl, rfl, by decide +kernel, rfl, by decide +kernel, by decide +kernel⟩
def RAfterN (as : List AV) (a : AV) : Prop := ∃ (c n : Nat) (r : List Int), as = [.int c, .il r] ∧ Wd c n r ∧ 1 ≤ n ∧ n ≤ 200 ∧ 1 ≤ c ∧ (∀ z ∈ necks c n, lexlt (leastR r) z = false) ∧ a = .non
def RAfterS (as : List AV) (l : List AV) : Prop := ∃ (c n : Nat) (r y : List Int), as = [.int c, .il r] ∧ Wd c n r ∧ 1 ≤ n ∧ n ≤ 200 ∧ 1 ≤ c ∧ Nxt c n (leastR r) y ∧ l = y.map AV.int
theorem after_core {cdv : Value} {A : Around} {outer : List Env} {s : Shared} {H : Hp} {E : XK} {N : AE} (T : Tops mg) (G1 : Has P w K mg base "asked_coloured" 3 (spA RAskedColoured)) (G2 : Has P w K mg base "turn_of" 1 (spN RTurnOf)) (G3 : Has P w K mg base "least_turn" 2 (spA RLeastTurn)) (hr : Room 3 (A.deeper (PyProof.Rows.envOfC "after" (defScope s_after) s.heap.objs.size f cdv)))
    {c n : Nat} {r : List Int} (hw : Wd c n r) (h1 : 1 ≤ n) (h2 : n ≤ 200) (hc : 1 ≤ c) (hNone : (∀ z ∈ necks c n, lexlt (leastR r) z = false) → N.rt .non) (hSome : ∀ y, Nxt c n (leastR r) y → N.rn (.bare, [y.map AV.int])) :
    CSs (cxOf CX0 P w K mg base afterS "after" (defScope s_after) f cdv A outer s H E).nox (defBody s_after) (startT afterS [.int c, .il r]) N := by
  have nd : afterS.Nodup := scAfter.nd
  have hne := wd_ne hw h1
  have hl := hw.len
  refine css_seq (cs_expr (c_call G1 hr (ca_cons (c_var 0) (ca_cons (c_var 1) ca_nil)) ⟨c, n, r, rfl, hw, h1, h2, by omega, rfl⟩) rfl) ?_
  refine css_seq (cs_setO 2 nd (CN.is (cn_call G2 (hr.mono (by decide)) (ca_cons (c_var 1) (ca_cons (c_call G3 (hr.mono (by decide)) (ca_cons (c_var 1) ca_nil) ⟨r, rfl, hne, by omega, rfl⟩) ca_nil)) ⟨r, _, rfl, hne, by omega, rfl⟩) (m := (leastR r).map AV.int) (by rw [leastT_turn hne])) rfl) ?_
  refine css_seq (cs_set 3 nd (CE.is (c_lenI T.len (c_var 1)) (b := .int (n : Nat)) (by rw [hl])) rfl) ?_
  have hL := wd_least hw h1
  have hN := least_nec hw.len h1
  generalize leastR r = x0 at hL hN hNone hSome
  refine css_cut (fun _ => ∀ z ∈ necks c n, lexlt x0 z = false)
    (cs_while (fun m τ' => ∃ now y4 y5, ((c : Int) ^ n - val c now).toNat = m ∧ Wd c n now ∧ PN n (g now) ∧ (∀ z, Wd c n z → Nec n (g z) → LT n (g x0) (g z) → LT n (g now) (g z)) ∧ ¬ LT n (g now) (g x0) ∧ τ' = [some (.val (.int c)), some (.val (.il r)), some (.own (now.map AV.int)), some (.val (.int n)), y4, y5, none]) ((c : Int) ^ n - val c x0).toNat ⟨x0, _, _, rfl, hL, hN.pn, fun z _ _ q => q, LT.irrefl, rfl⟩ fun m τ' hI => ?_) ?_
  · obtain ⟨now, y4, y5, hm, hwn, hpn, hall, hge, rfl⟩ := hI
    have hln := hwn.len
    refine ⟨decide (g now 0 < (c : Int) - 1), ct_own 2 (ct_lt (CE.is (c_ix (c_var 2) c_int (atI_nth (ns := now) (by decide) (by omega))) (b := .int (g now 0)) (by rw [show (0 : Int) = ((0 : Nat) : Int) from rfl, nth_g])) (c_sub (c_var 0) c_int)), fun h => ?_, fun h => ?_⟩
    · have h0 := of_decide_eq_true h
      obtain ⟨ps, hps⟩ : ∃ ps : List Int, ps = ((List.range n).filter fun i => decide (g now i < (c : Int) - 1)).map fun i : Nat => (i : Int) := ⟨_, rfl⟩
      have hpne : ps ≠ [] := by
        rw [hps]
        exact List.ne_nil_of_mem (a := ((0 : Nat) : Int)) (List.mem_map.mpr ⟨0, List.mem_filter.mpr ⟨List.mem_range.mpr (by omega), decide_eq_true h0⟩, rfl⟩)
      obtain ⟨p, e1, p1, p2, p3⟩ := max_place hps hpne
      have p2 := of_decide_eq_true p2
      have p3 : ∀ i, p < i → i < n → g now i = (c : Int) - 1 := fun i hi hin => by
        have := of_decide_eq_false (p3 i hi hin)
        have := (hwn.lt i hin).2
        omega
      refine css_seq (cs_set 4 nd (ce_own 2 (CE.is (c_max T.max (CE.is (CN.ce (cn_lc1 6 (φ := fun i : Nat => AV.int (i : Int)) (χ := fun i : Nat => AV.int (i : Int)) (xs := List.range n) (fun i => decide (g now i < (c : Int) - 1)) nd (CI.is (ci_range1 (c_var 3) (by omega) T.range) (by rw [Int.toNat_natCast, rng_range])) (by rw [List.length_range]; omega)
        (fun i hi _ _ _ _ _ => cts_one (ct_lt (CE.is (c_ix (c_var 2) (c_var 6) (atI_nth (ns := now) (by omega) (by rw [List.mem_range] at hi; omega))) (b := .int (g now i)) (by rw [nth_g])) (c_sub (c_var 0) c_int))) (fun i hi _ _ _ _ _ _ => c_var 6))) (b := .il ps) (by rw [hps, AV.il, List.map_map]; rfl)) hpne) (b := .int (p : Int)) (by rw [e1]))) rfl) ?_
      refine css_seq (cs_set 5 nd (CN.ce (cn_ownI 2 (sh0 := .bare) (ls0 := [now.map AV.int]) (ns := now.take p ++ [g now p + 1]) (CN.is (cn_cat (CN.ce (cn_slice (c_var 2) co_none (co_some (c_var 4)))) (CN.ce (cn_lst (ca_cons (c_add (CE.is (c_ix (c_var 2) (c_var 4) (atI_nth (ns := now) (by omega) (by omega))) (b := .int (g now p)) (by rw [nth_g])) c_int) ca_nil))) (by rw [cut_to]; simp; omega)) (by rw [cut_to, List.map_append, List.map_take]; rfl)))) rfl) ?_
      have hsl : (now.take p ++ [g now p + 1]).length = p + 1 := by simp; omega
      refine css_seq (cs_setO 2 nd (CN.is (cn_slice (CN.ce (cn_rep (c_var 5) (c_var 3) (by omega) (by rw [List.length_map, hsl, Int.toNat_natCast]; exact Nat.le_trans (Nat.mul_le_mul (show p + 1 ≤ 200 by omega) h2) (by decide)))) co_none (co_some (c_var 3))) (m := (upw n p now).map AV.int) ?_) rfl) ?_
      · rw [cut_to]
        unfold upw rep
        rw [List.map_take, List.map_flatten, List.map_replicate]
      obtain ⟨u1, u2, u3, u4⟩ := upw_ok hwn hpn p1 p2 p3
      have un : ∀ z, Wd c n z → Nec n (g z) → LT n (g x0) (g z) → ¬ LT n (g z) (g (upw n p now)) := fun z hz hnz q => u4 z hz hnz.pn (hall z hz hnz q)
      refine css_one (cs_if (CT.is (ct_eq (c_mod (c_var 3) (CE.is (c_add (c_var 4) c_int) (b := .int ((p + 1 : Nat) : Int)) rfl) (by omega)) c_int) (dec_mod n (p + 1))) (fun q => ?_) (fun q => css_nil ?_))
      · have q2 := of_decide_eq_true q
        have hnu := u3.nec q2
        have hx0 : LT n (g x0) (g (upw n p now)) := by
          rcases LT.tri n (g x0) (g now) with z | z | z
          · exact z.trans u2
          · exact u2.congr z fun _ _ => rfl
          · exact absurd z hge
        have hnx : Nxt c n x0 (upw n p now) := ⟨(mem_necks h1).mpr ⟨u1, hnu⟩, (lt_iff hL.len u1.len).mpr hx0, fun z hz hlt => by
          have hz2 := (mem_necks h1).mp hz
          rw [not_lt_iff hz2.1.len u1.len]
          exact un z hz2.1 hz2.2 ((lt_iff hL.len hz2.1.len).mp hlt)⟩
        exact css_one (cs_retO 2 (hSome _ hnx))
      · have q2 := of_decide_eq_false q
        refine ⟨_, by rw [← hm]; exact hwn.val_up u1 u2, upw n p now, _, _, rfl, u1, u3.pn, fun z hz hnz k => ?_, fun k => ?_, rfl⟩
        · rcases LT.tri n (g (upw n p now)) (g z) with t | t | t
          · exact t
          · exact absurd (hnz.congr fun i hi => (t i hi).symm) (u3.notnec q2)
          · exact absurd t (un z hz hnz k)
        · rcases LT.tri n (g x0) (g now) with z | z | z
          · exact LT.asymm (z.trans u2) k
          · exact LT.asymm (u2.congr z fun _ _ => rfl) k
          · exact hge z
    · have h0 := of_decide_eq_false h
      intro z hz
      have hz2 := (mem_necks h1).mp hz
      rw [not_lt_iff hL.len hz2.1.len]
      intro k
      obtain ⟨j, j1, j2, j3⟩ := hall z hz2.1 hz2.2 k
      have top : (c : Int) - 1 ≤ g now j := by
        rcases Int.lt_or_le (g now j) ((c : Int) - 1) with q | q
        · exfalso
          refine hpn j j1 ⟨0, by omega, fun i hi => by omega, ?_⟩
          show g now (0 + j) < g now 0
          rw [Nat.zero_add]; omega
        · exact q
      have := (hz2.1.lt j j1).2
      omega
  · intro τ' hno
    exact css_one (cs_ret c_non (hNone hno))
theorem ok_afterN (F : Fun K "after" "after" s_after f fd) (T : Tops mg) (G1 : Has P w K mg base "asked_coloured" 3 (spA RAskedColoured)) (G2 : Has P w K mg base "turn_of" 1 (spN RTurnOf)) (G3 : Has P w K mg base "least_turn" 2 (spA RLeastTurn)) : FnOk P w K mg base CX0 4 f fd ["colours", "ring"] (spA RAfterN) := by
  refine okA F scAfter (fun as l ⟨_, _, _, h, _⟩ => by rw [h]; rfl) fun cdv A outer s H E hr as a ⟨c, n, r, h, hw, h1, h2, hc, hno, ha⟩ => ?_
  subst h ha
  exact after_core T G1 G2 G3 hr hw h1 h2 hc (fun _ => rfl) fun y hy => by
    have := hno y hy.y_in
    rw [hy.lt] at this; cases this
theorem ok_afterS (F : Fun K "after" "after" s_after f fd) (T : Tops mg) (G1 : Has P w K mg base "asked_coloured" 3 (spA RAskedColoured)) (G2 : Has P w K mg base "turn_of" 1 (spN RTurnOf)) (G3 : Has P w K mg base "least_turn" 2 (spA RLeastTurn)) : FnOk P w K mg base CX0 4 f fd ["colours", "ring"] (spN RAfterS) := by
  refine okN F scAfter (fun as l ⟨_, _, _, _, h, _⟩ => by rw [h]; rfl) fun cdv A outer s H E hr as l ⟨c, n, r, y, h, hw, h1, h2, hc, hy, hl⟩ => ?_
  subst h hl
  refine after_core T G1 G2 G3 hr hw h1 h2 hc (fun hno => ?_) fun y' hy' => ?_
  · have := hno y hy.y_in
    rw [hy.lt] at this; cases this
  · have : y' = y := lexlt_tri _ _ (hy.least _ hy'.y_in hy'.lt |> fun _ => by
      cases q : lexlt y' y with
      | false => rfl
      | true => have := hy.least _ hy'.y_in hy'.lt; rw [q] at this; cases this) (hy'.least _ hy.y_in hy.lt)
    rw [this]

theorem ok_afterX (F : Fun K "after" "after" s_after f fd) (X1 : HasX P w K mg base "asked_coloured" 3 (spX (RNoRow K))) : FnOk P w K mg base (L2.CX P w) 4 f fd ["colours", "ring"] (spX (RNoRow K)) := by
  refine okR F scAfter (fun as C h => h.len) fun cdv A outer s H E hr tk as C h => ?_
  obtain ⟨a, b, e⟩ := h.two
  subst e
  exact rss_head (rs_expr (re_call X1 tk hr (ca_cons (c_var 0) (ca_cons (c_var 1) ca_nil)) h))

abbrev beforeS : List Str := ["colours", "ring", "now", "at", "place"]
theorem scBefore : FnScope beforeS ["colours", "ring"] (defScope s_before) := ⟨rfl, rfl, rfl, by decide +kernel, rfl, by decide +kernel, by decide +kernel⟩
def RBeforeN (as : List AV) (a : AV) : Prop := ∃ (c n : Nat) (r : List Int), as = [.int c, .il r] ∧ Wd c n r ∧ 1 ≤ n ∧ n ≤ 200 ∧ 1 ≤ c ∧ (∀ z ∈ necks c n, lexlt z (leastR r) = false) ∧ a = .non
def RBeforeS (as : List AV) (l : List AV) : Prop := ∃ (c n : Nat) (r y : List Int), as = [.int c, .il r] ∧ Wd c n r ∧ 1 ≤ n ∧ n ≤ 200 ∧ 1 ≤ c ∧ Ahd c n (leastR r) y ∧ l = y.map AV.int
theorem before_core {cdv : Value} {A : Around} {outer : List Env} {s : Shared} {H : Hp} {E : XK} {N : AE} (T : Tops mg) (G1 : Has P w K mg base "asked_coloured" 3 (spA RAskedColoured)) (G2 : Has P w K mg base "turn_of" 1 (spN RTurnOf)) (G3 : Has P w K mg base "least_turn" 2 (spA RLeastTurn)) (G4 : Has P w K mg base "floor_row" 1 (spN RFloorRow)) (hr : Room 3 (A.deeper (PyProof.Rows.envOfC "before" (defScope s_before) s.heap.objs.size f cdv)))
    {c n : Nat} {r : List Int} (hw : Wd c n r) (h1 : 1 ≤ n) (h2 : n ≤ 200) (hc : 1 ≤ c) (hNone : (∀ z ∈ necks c n, lexlt z (leastR r) = false) → N.rt .non) (hSome : ∀ y, Ahd c n (leastR r) y → N.rn (.bare, [y.map AV.int])) :
    CSs (cxOf CX0 P w K mg base beforeS "before" (defScope s_before) f cdv A outer s H E).nox (defBody s_before) (startT beforeS [.int c, .il r]) N := by
  have nd : beforeS.Nodup := scBefore.nd
  have hne := wd_ne hw h1
  have hl := hw.len
  refine css_seq (cs_expr (c_call G1 hr (ca_cons (c_var 0) (ca_cons (c_var 1) ca_nil)) ⟨c, n, r, rfl, hw, h1, h2, by omega, rfl⟩) rfl) ?_
  refine css_seq (cs_set 2 nd (CE.is (CN.ce (cn_call G2 (hr.mono (by decide)) (ca_cons (c_var 1) (ca_cons (c_call G3 (hr.mono (by decide)) (ca_cons (c_var 1) ca_nil) ⟨r, rfl, hne, by omega, rfl⟩) ca_nil)) ⟨r, _, rfl, hne, by omega, rfl⟩)) (b := .il (leastR r)) (by rw [leastT_turn hne])) rfl) ?_
  have hL := wd_least hw h1
  have hin := least_in hw h1
  generalize leastR r = x0 at hL hin hNone hSome
  have hx0l := hL.len
  have hx0 := wd_ne hL h1
  refine css_cut (fun τ' => 0 < maxI x0 ∧ τ' = [some (.val (.int c)), some (.val (.il r)), some (.val (.il x0)), none, none]) (cs_if (ct_eq (c_max T.max (c_var 2) hx0) c_int) (fun q => ?_) (fun q => css_nil ⟨?_, rfl⟩)) ?_
  · have q := of_decide_eq_true q
    have zero : ∀ i, i < n → g x0 i = 0 := fun i hi => by
      have := (maxI_ex hx0).2 _ (g_mem (show i < x0.length by omega))
      have := (hL.lt i hi).1
      omega
    refine css_one (cs_ret c_non (hNone fun z hz => ?_))
    have hz2 := (mem_necks h1).mp hz
    rw [not_lt_iff hz2.1.len hL.len]
    rintro ⟨k, k1, _, k3⟩
    have := (hz2.1.lt k k1).1
    rw [zero k k1] at k3
    omega
  · have q := of_decide_eq_false q
    have := (hL.mem _ (maxI_ex hx0).1).1
    omega
  rintro τ' ⟨hpos, rfl⟩
  obtain ⟨ps, hps⟩ : ∃ ps : List Int, ps = ((List.range n).filter fun i => decide (0 < g x0 i)).map fun i : Nat => (i : Int) := ⟨_, rfl⟩
  have hpne : ps ≠ [] := by
    obtain ⟨i, hi, e⟩ := List.getElem_of_mem (maxI_ex hx0).1
    rw [hps]
    refine List.ne_nil_of_mem (a := (i : Int)) (List.mem_map.mpr ⟨i, List.mem_filter.mpr ⟨List.mem_range.mpr (by omega), decide_eq_true ?_⟩, rfl⟩)
    unfold g
    rw [List.getElem?_eq_getElem hi, e]; exact hpos
  obtain ⟨p, e1, p1, p2, p3⟩ := max_place hps hpne
  have p2 := of_decide_eq_true p2
  have p3 : ∀ i, p < i → i < n → g x0 i = 0 := fun i hi hin => by
    have := of_decide_eq_false (p3 i hi hin)
    have := (hL.lt i hin).1
    omega
  refine css_seq (cs_set 3 nd (CE.is (c_max T.max (CE.is (CN.ce (cn_lc1 4 (φ := fun i : Nat => AV.int (i : Int)) (χ := fun i : Nat => AV.int (i : Int)) (xs := List.range n) (fun i => decide (0 < g x0 i)) nd (CI.is (ci_range1 (CE.is (c_lenI T.len (c_var 2)) (b := .int (n : Nat)) (by rw [hx0l])) (by omega) T.range) (by rw [Int.toNat_natCast, rng_range])) (by rw [List.length_range]; omega)
    (fun i hi _ _ _ _ _ => cts_one (ct_gt (CE.is (c_ix (c_var 2) (c_var 4) (atI_nth (ns := x0) (by omega) (by rw [List.mem_range] at hi; omega))) (b := .int (g x0 i)) (by rw [nth_g])) c_int)) (fun i hi _ _ _ _ _ _ => c_var 4))) (b := .il ps) (by rw [hps, AV.il, List.map_map]; rfl)) hpne) (b := .int (p : Int)) (by rw [e1])) rfl) ?_
  obtain ⟨wd, _⟩ := predw_ok (c := (c : Int)) (by omega) hL p1 p2 p3
  obtain ⟨y, hy⟩ := floor_ex h1 hc wd
  have hahd := ahd_of h1 hc hin p1 p2 p3 hy
  refine css_one (cs_retN (cn_call G4 (hr.mono (by decide)) (ca_cons (c_var 0) (ca_cons (CE.is (CN.ce (cn_cat (CN.ce (cn_cat (CN.ce (cn_slice (c_var 2) co_none (co_some (c_var 3)))) (CN.ce (cn_lst (ca_cons (c_sub (CE.is (c_ix (c_var 2) (c_var 3) (atI_nth (ns := x0) (by omega) (by omega))) (b := .int (g x0 p)) (by rw [nth_g])) c_int) ca_nil))) ?_)) (CN.ce (cn_rep (CN.ce (cn_lst (ca_cons (c_sub (c_var 0) c_int) ca_nil))) (c_sub (c_sub (CE.is (c_lenI T.len (c_var 2)) (b := .int (n : Nat)) (by rw [hx0l])) (c_var 3)) c_int) (by omega) ?_)) ?_)) (b := .il (predw c n p x0)) ?_) ca_nil)) ⟨c, n, _, y, rfl, wd, h1, h2, hc, hy, rfl⟩) (hSome _ hahd))
  · rw [cut_to]; simp; omega
  · simp; omega
  · rw [cut_to, List.length_append, rep_len]; simp; omega
  · rw [cut_to]
    unfold predw down AV.il rep
    rw [show ((n : Int) - (p : Int) - 1).toNat = n - (p + 1) by omega, Nat.add_sub_cancel, List.map_append, List.map_append, List.map_take, List.map_replicate]
    congr 2
    induction (n - (p + 1)) with
    | zero => rfl
    | succ k ih => rw [List.replicate_succ, List.flatten_cons, ih, List.replicate_succ]; rfl
theorem ok_beforeN (F : Fun K "before" "before" s_before f fd) (T : Tops mg) (G1 : Has P w K mg base "asked_coloured" 3 (spA RAskedColoured)) (G2 : Has P w K mg base "turn_of" 1 (spN RTurnOf)) (G3 : Has P w K mg base "least_turn" 2 (spA RLeastTurn)) (G4 : Has P w K mg base "floor_row" 1 (spN RFloorRow)) : FnOk P w K mg base CX0 4 f fd ["colours", "ring"] (spA RBeforeN) := by
  refine okA F scBefore (fun as l ⟨_, _, _, h, _⟩ => by rw [h]; rfl) fun cdv A outer s H E hr as a ⟨c, n, r, h, hw, h1, h2, hc, hno, ha⟩ => ?_
  subst h ha
  exact before_core T G1 G2 G3 G4 hr hw h1 h2 hc (fun _ => rfl) fun y hy => by
    have := hno y hy.y_in
    rw [hy.lt] at this; cases this
theorem ok_beforeS (F : Fun K "before" "before" s_before f fd) (T : Tops mg) (G1 : Has P w K mg base "asked_coloured" 3 (spA RAskedColoured)) (G2 : Has P w K mg base "turn_of" 1 (spN RTurnOf)) (G3 : Has P w K mg base "least_turn" 2 (spA RLeastTurn)) (G4 : Has P w K mg base "floor_row" 1 (spN RFloorRow)) : FnOk P w K mg base CX0 4 f fd ["colours", "ring"] (spN RBeforeS) := by
  refine okN F scBefore (fun as l ⟨_, _, _, _, h, _⟩ => by rw [h]; rfl) fun cdv A outer s H E hr as l ⟨c, n, r, y, h, hw, h1, h2, hc, hy, hl⟩ => ?_
  subst h hl
  refine before_core T G1 G2 G3 G4 hr hw h1 h2 hc (fun hno => ?_) fun y' hy' => ?_
  · have := hno y hy.y_in
    rw [hy.lt] at this; cases this
  · have : y' = y := lexlt_tri _ _ (hy'.top _ hy.y_in hy.lt) (hy.top _ hy'.y_in hy'.lt)
    rw [this]

theorem ok_beforeX (F : Fun K "before" "before" s_before f fd) (X1 : HasX P w K mg base "asked_coloured" 3 (spX (RNoRow K))) : FnOk P w K mg base (L2.CX P w) 4 f fd ["colours", "ring"] (spX (RNoRow K)) := by
  refine okR F scBefore (fun as C h => h.len) fun cdv A outer s H E hr tk as C h => ?_
  obtain ⟨a, b, e⟩ := h.two
  subst e
  exact rss_head (rs_expr (re_call X1 tk hr (ca_cons (c_var 0) (ca_cons (c_var 1) ca_nil)) h))

theorem scToldX : FnScope ["one", "other"] ["one", "other"] (defScope s_told) := ⟨rfl, rfl, rfl, by decide +kernel, rfl, by decide +kernel, by decide +kernel⟩
def RToldX (K : PySem.W.Frag) (as : List AV) (C : Addr) : Prop := (∃ a b, as = [a, b] ∧ NoRing K a ∧ C = He.ga K "BadRing") ∨ ∃ (r : List Int) (b : AV), as = [.il r, b] ∧ Ring r ∧ NoRing K b ∧ C = He.ga K "BadRing"
theorem ok_toldX (F : Fun K "told" "told" s_told f fd) (G1 : Has P w K mg base "asked_ring" 2 (spA RAskedRing)) (X1 : HasX P w K mg base "asked_ring" 2 (spX (RNoRing K))) : FnOk P w K mg base (L2.CX P w) 3 f fd ["one", "other"] (spX (RToldX K)) := by
  refine okR F scToldX (fun as C h => by rcases h with ⟨_, _, h, _⟩ | ⟨_, _, h, _⟩ <;> rw [h] <;> rfl) fun cdv A outer s H E hr tk as C h => ?_
  rcases h with ⟨a, b, h, hR, hC⟩ | ⟨r, b, h, hr1, hR, hC⟩
  · subst h hC
    exact rss_head (rs_expr (re_call X1 tk hr (ca_cons (c_var 0) ca_nil) ⟨a, rfl, hR, rfl⟩))
  · subst h hC
    refine rss_seq (cs_expr (c_call G1 hr (ca_cons (c_var 0) ca_nil) ⟨r, rfl, hr1, rfl⟩) rfl) ?_
    exact rss_head (rs_expr (re_call X1 tk hr (ca_cons (c_var 1) ca_nil) ⟨b, rfl, hR, rfl⟩))

theorem scWithRing : FnScope ["_law_door", "_law_ring"] ["_law_door", "_law_ring"] (defScope s__law_with_ring) := ⟨rfl, rfl, rfl, by decide +kernel, rfl, by decide +kernel, by decide +kernel⟩
def RWithRing (K : PySem.W.Frag) (as : List AV) (C : Addr) : Prop := ∃ d : Int, as = [.int d, .ex (NoRing K) id] ∧ C = He.ga K "BadRing"
theorem ring01 : Ring [0, 1] := ⟨by decide, by decide, by decide⟩
theorem ok_law_with_ring (F : Fun K "_law_with_ring" "_law_with_ring" s__law_with_ring f fd) (X1 : HasX P w K mg base "turned" 3 (spX (RTurnedX K))) (X2 : HasX P w K mg base "least" 3 (spX (RNoRing K))) (X3 : HasX P w K mg base "period" 3 (spX (RNoRing K))) (X4 : HasX P w K mg base "told" 3 (spX (RToldX K))) (X5 : HasX P w K mg base "number_of" 4 (spX (RNoRow K))) (X6 : HasX P w K mg base "after" 4 (spX (RNoRow K))) (X7 : HasX P w K mg base "before" 4 (spX (RNoRow K))) :
    FnOk P w K mg base (L2.CX P w) 5 f fd ["_law_door", "_law_ring"] (spX (RWithRing K)) := by
  refine okR F scWithRing (fun as C ⟨_, h, _⟩ => by rw [h]; rfl) fun cdv A outer s H E hr tk as C ⟨d, h, hC⟩ => ?_
  subst h hC
  refine rss_open 1 fun a hN => ?_
  by_cases h3 : d < 3
  · exact rss_head (rs_if (b := true) (CT.is (ct_lt (c_var 0) c_int) (decide_eq_true h3)) (fun _ => rss_head (rs_ret (re_if (ct_eq (c_var 0) c_int)
      (fun _ => re_call X1 tk (hr.mono (by decide)) (ca_cons (c_var 1) (ca_cons c_non ca_nil)) (.inl ⟨a, .non, rfl, hN, rfl⟩))
      (fun _ => re_if (ct_eq (c_var 0) c_int) (fun _ => re_call X2 tk (hr.mono (by decide)) (ca_cons (c_var 1) ca_nil) ⟨a, rfl, hN, rfl⟩) (fun _ => re_call X3 tk (hr.mono (by decide)) (ca_cons (c_var 1) ca_nil) ⟨a, rfl, hN, rfl⟩))))) fun h => by cases h)
  refine rss_seq (cs_if (b := false) (CT.is (ct_lt (c_var 0) c_int) (decide_eq_false h3)) (fun h => by cases h) fun _ => css_nil rfl) ?_
  by_cases h5 : d < 5
  · exact rss_head (rs_if (b := true) (CT.is (ct_lt (c_var 0) c_int) (decide_eq_true h5)) (fun _ => rss_head (rs_ret (re_if (ct_eq (c_var 0) c_int)
      (fun _ => re_call X4 tk (hr.mono (by decide)) (ca_cons (c_var 1) (ca_cons c_non ca_nil)) (.inl ⟨a, .non, rfl, hN, rfl⟩))
      (fun _ => re_call X4 tk (hr.mono (by decide)) (ca_cons (CN.ce (cn_lst (l := ([0, 1] : List Int).map AV.int) (ca_cons c_int (ca_cons c_int ca_nil)))) (ca_cons (c_var 1) ca_nil)) (.inr ⟨[0, 1], a, rfl, ring01, hN, rfl⟩))))) fun h => by cases h)
  refine rss_seq (cs_if (b := false) (CT.is (ct_lt (c_var 0) c_int) (decide_eq_false h5)) (fun h => by cases h) fun _ => css_nil rfl) ?_
  exact rss_head (rs_ret (re_if (ct_eq (c_var 0) c_int) (fun _ => re_call X5 tk hr (ca_cons c_int (ca_cons (c_var 1) ca_nil)) (.inr (.inl ⟨3, a, rfl, by decide, hN, rfl⟩)))
    (fun _ => re_if (ct_eq (c_var 0) c_int) (fun _ => re_call X6 tk hr (ca_cons c_int (ca_cons (c_var 1) ca_nil)) (.inr (.inl ⟨3, a, rfl, by decide, hN, rfl⟩))) (fun _ => re_call X7 tk hr (ca_cons c_int (ca_cons (c_var 1) ca_nil)) (.inr (.inl ⟨3, a, rfl, by decide, hN, rfl⟩))))))

theorem scWithColours : FnScope ["_law_door", "_law_colours"] ["_law_door", "_law_colours"] (defScope s__law_with_colours) := ⟨rfl, rfl, rfl, by decide +kernel, rfl, by decide +kernel, by decide +kernel⟩
def RWithColours (K : PySem.W.Frag) (as : List AV) (C : Addr) : Prop := ∃ (d : Int) (a : AV), as = [.int d, a] ∧ NoCol K a ∧ C = He.ga K "BadColours"
theorem ok_law_with_colours (F : Fun K "_law_with_colours" "_law_with_colours" s__law_with_colours f fd) (X1 : HasX P w K mg base "rings" 3 (spX (RRingsX K))) (X2 : HasX P w K mg base "of_period" 3 (spX (ROfPeriodX K))) (X3 : HasX P w K mg base "number_of" 4 (spX (RNoRow K))) (X4 : HasX P w K mg base "ring_by" 4 (spX (RRingByX K))) (X5 : HasX P w K mg base "after" 4 (spX (RNoRow K))) (X6 : HasX P w K mg base "before" 4 (spX (RNoRow K))) :
    FnOk P w K mg base (L2.CX P w) 5 f fd ["_law_door", "_law_colours"] (spX (RWithColours K)) := by
  refine okR F scWithColours (fun as C ⟨_, _, h, _⟩ => by rw [h]; rfl) fun cdv A outer s H E hr tk as C ⟨d, a, h, hN, hC⟩ => ?_
  subst h hC
  by_cases h2 : d < 2
  · exact rss_head (rs_if (b := true) (CT.is (ct_lt (c_var 0) c_int) (decide_eq_true h2)) (fun _ => rss_head (rs_ret (re_if (ct_eq (c_var 0) c_int)
      (fun _ => re_call X1 tk (hr.mono (by decide)) (ca_cons (c_var 1) (ca_cons c_non ca_nil)) (.inl ⟨a, .non, rfl, hN, rfl⟩))
      (fun _ => re_call X2 tk (hr.mono (by decide)) (ca_cons (c_var 1) (ca_cons c_int (ca_cons c_int ca_nil))) (.inl ⟨a, .int 0, .int 0, rfl, hN, rfl⟩))))) fun h => by cases h)
  refine rss_seq (cs_if (b := false) (CT.is (ct_lt (c_var 0) c_int) (decide_eq_false h2)) (fun h => by cases h) fun _ => css_nil rfl) ?_
  by_cases h3 : d = 2
  · exact rss_head (rs_if (b := true) (CT.is (ct_eq (c_var 0) c_int) (decide_eq_true h3)) (fun _ => rss_head (rs_ret (re_call X3 tk hr (ca_cons (c_var 1) (ca_cons c_non ca_nil)) (.inl ⟨a, .non, rfl, hN, rfl⟩)))) fun h => by cases h)
  refine rss_seq (cs_if (b := false) (CT.is (ct_eq (c_var 0) c_int) (decide_eq_false h3)) (fun h => by cases h) fun _ => css_nil rfl) ?_
  exact rss_head (rs_ret (re_if (ct_eq (c_var 0) c_int) (fun _ => re_call X4 tk hr (ca_cons (c_var 1) (ca_cons c_non (ca_cons c_non ca_nil))) (.inl ⟨a, .non, .non, rfl, hN, rfl⟩))
    (fun _ => re_if (ct_eq (c_var 0) c_int) (fun _ => re_call X5 tk hr (ca_cons (c_var 1) (ca_cons c_non ca_nil)) (.inl ⟨a, .non, rfl, hN, rfl⟩)) (fun _ => re_call X6 tk hr (ca_cons (c_var 1) (ca_cons c_non ca_nil)) (.inl ⟨a, .non, rfl, hN, rfl⟩)))))

theorem scWithLength : FnScope ["_law_door", "_law_length"] ["_law_door", "_law_length"] (defScope s__law_with_length) := ⟨rfl, rfl, rfl, by decide +kernel, rfl, by decide +kernel, by decide +kernel⟩
def RWithLength (K : PySem.W.Frag) (as : List AV) (C : Addr) : Prop := ∃ (d : Int) (a : AV), as = [.int d, a] ∧ NoLen K a ∧ C = He.ga K "BadLength"
theorem ok_law_with_length (F : Fun K "_law_with_length" "_law_with_length" s__law_with_length f fd) (X1 : HasX P w K mg base "rings" 3 (spX (RRingsX K))) (X2 : HasX P w K mg base "of_period" 3 (spX (ROfPeriodX K))) (X4 : HasX P w K mg base "ring_by" 4 (spX (RRingByX K))) :
    FnOk P w K mg base (L2.CX P w) 5 f fd ["_law_door", "_law_length"] (spX (RWithLength K)) := by
  refine okR F scWithLength (fun as C ⟨_, _, h, _⟩ => by rw [h]; rfl) fun cdv A outer s H E hr tk as C ⟨d, a, h, hN, hC⟩ => ?_
  subst h hC
  exact rss_head (rs_ret (re_if (ct_eq (c_var 0) c_int) (fun _ => re_call X1 tk (hr.mono (by decide)) (ca_cons c_int (ca_cons (c_var 1) ca_nil)) (.inr ⟨2, a, rfl, by decide, hN, rfl⟩))
    (fun _ => re_if (ct_eq (c_var 0) c_int) (fun _ => re_call X2 tk (hr.mono (by decide)) (ca_cons c_int (ca_cons (c_var 1) (ca_cons c_non ca_nil))) (.inr (.inl ⟨2, a, .non, rfl, by decide, hN, rfl⟩))) (fun _ => re_call X4 tk hr (ca_cons c_int (ca_cons (c_var 1) (ca_cons c_non ca_nil))) (.inr (.inl ⟨2, a, .non, rfl, by decide, hN, rfl⟩))))))

abbrev badN : List Str := ["_law_which", "_law_more", "_law_bad", "_law_found"]
theorem scBadRing : FnScope badN ["_law_which", "_law_more"] (defScope s__law_bad_ring) := ⟨rfl, rfl, rfl, by decide +kernel, rfl, by decide +kernel, by decide +kernel⟩
def RBadRing (K : PySem.W.Frag) (as : List AV) (a : AV) : Prop := ∃ w m : Int, as = [.int w, .int m] ∧ 0 ≤ m ∧ m ≤ 1000 ∧ a = .ex (NoRing K) id
def badL (m : Int) : List AV := [.non, .tup [.int 0, .int 1], .str "01", .int 5, .dic [], .lst [], .lst (rep [.int 0] 201), .lst (rep [.int 1] (202 + m % 50)), .lst [.lst [.int 0]]]
def badB (m : Int) : List AV := [.non, .str "1", .bl true, .bl false, .int (-1 - m), .lst [.int 1], .tup [.int 0], .dic [], .str "x"]
theorem badL_ok {K : PySem.W.Frag} {m : Int} : ∀ a ∈ badL m, NoRing K a := by
  have m0 := Int.emod_nonneg m (show (50 : Int) ≠ 0 by decide)
  have m1 := Int.emod_lt_of_pos m (show (0 : Int) < 50 by decide)
  intro a ha
  rcases List.mem_cons.mp ha with rfl | ha
  · exact .ty ty_non (by decide) (by decide)
  rcases List.mem_cons.mp ha with rfl | ha
  · exact .ty (ty_tup _) (by decide) (by decide)
  rcases List.mem_cons.mp ha with rfl | ha
  · exact .ty (ty_str _) (by decide) (by decide)
  rcases List.mem_cons.mp ha with rfl | ha
  · exact .ty (ty_int 5) (by decide) (by decide)
  rcases List.mem_cons.mp ha with rfl | ha
  · exact .ty (ty_dic _) (by decide) (by decide)
  rcases List.mem_cons.mp ha with rfl | ha
  · exact .len (.inl rfl)
  rcases List.mem_cons.mp ha with rfl | ha
  · exact .len (.inr (by rw [rep_one, List.length_replicate]; decide))
  rcases List.mem_cons.mp ha with rfl | ha
  · exact .len (.inr (by rw [rep_one, List.length_replicate]; omega))
  rcases List.mem_cons.mp ha with rfl | ha
  · refine .bead (l := [(.lst [.int 0], false)]) (by decide) (by decide) (fun q hq => ?_) ⟨_, List.mem_cons_self, rfl⟩
    rcases List.mem_cons.mp hq with rfl | hq
    · exact .oth (no_lst _)
    · cases hq
  · cases ha
theorem badB_ok {K : PySem.W.Frag} {m : Int} (hm : 0 ≤ m) : ∀ a ∈ badB m, Bead K a false := by
  intro a ha
  rcases List.mem_cons.mp ha with rfl | ha
  · exact .oth no_non
  rcases List.mem_cons.mp ha with rfl | ha
  · exact .oth (no_str _)
  rcases List.mem_cons.mp ha with rfl | ha
  · exact .oth (no_bl _)
  rcases List.mem_cons.mp ha with rfl | ha
  · exact .oth (no_bl _)
  rcases List.mem_cons.mp ha with rfl | ha
  · have e : decide (0 ≤ -1 - m) = false := decide_eq_false (by omega)
    have := Bead.int (K := K) (-1 - m)
    rwa [e] at this
  rcases List.mem_cons.mp ha with rfl | ha
  · exact .oth (no_lst _)
  rcases List.mem_cons.mp ha with rfl | ha
  · exact .oth (no_tup _)
  rcases List.mem_cons.mp ha with rfl | ha
  · exact .oth (no_dic _)
  rcases List.mem_cons.mp ha with rfl | ha
  · exact .oth (no_str _)
  · cases ha
theorem bad_list {K : PySem.W.Frag} {xs : List Int} {j : Nat} {a : AV} (hj : j < xs.length) (h2 : xs.length ≤ 200) (ha : Bead K a false) : NoRing K (.lst ((xs.map AV.int).set j a)) := by
  have e : (xs.map AV.int).set j a = ((xs.map fun x => (AV.int x, decide (0 ≤ x))).set j (a, false)).map Prod.fst := by
    rw [List.map_set, List.map_map]; rfl
  rw [e]
  refine .bead (by rw [List.length_set, List.length_map]; omega) (by rw [List.length_set, List.length_map]; exact h2) (fun q hq => ?_) ⟨(a, false), ?_, rfl⟩
  · rcases List.mem_or_eq_of_mem_set hq with hq | rfl
    · obtain ⟨x, _, rfl⟩ := List.mem_map.mp hq
      exact .int x
    · exact ha
  · exact List.mem_set (by rw [List.length_map]; exact hj) _
theorem ok_law_bad_ring (F : Fun K "_law_bad_ring" "_law_bad_ring" s__law_bad_ring f fd) (T : Tops mg) : FnOk P w K mg base CX0 1 f fd ["_law_which", "_law_more"] (spA (RBadRing K)) := by
  refine okA F scBadRing (fun as l ⟨_, _, h, _⟩ => by rw [h]; rfl) fun cdv A outer s H E hr as a ⟨z, m, h, hm, hm2, ha⟩ => ?_
  subst h ha
  have nd : badN.Nodup := scBadRing.nd
  have m0 := Int.emod_nonneg m (show (50 : Int) ≠ 0 by decide)
  have m1 := Int.emod_lt_of_pos m (show (0 : Int) < 50 by decide)
  have z0 := Int.emod_nonneg z (show (18 : Int) ≠ 0 by decide)
  have z1 := Int.emod_lt_of_pos z (show (0 : Int) < 18 by decide)
  have p0 := Int.emod_nonneg m (show (5 : Int) ≠ 0 by decide)
  have p1 := Int.emod_lt_of_pos m (show (0 : Int) < 5 by decide)
  refine css_seq (cs_set 2 nd (CE.is (CN.ce (cn_lst (ca_cons c_non (ca_cons (c_tup (ca_cons c_int (ca_cons c_int ca_nil))) (ca_cons c_str (ca_cons c_int (ca_cons (CR.ce cr_dic0) (ca_cons (CN.ce (cn_lst ca_nil))
    (ca_cons (CN.ce (cn_rep (CN.ce (cn_lst (ca_cons c_int ca_nil))) c_int (by decide) (by decide))) (ca_cons (CN.ce (cn_rep (CN.ce (cn_lst (ca_cons c_int ca_nil))) (c_add c_int (c_mod (c_var 1) c_int (by decide))) (by omega) (by simp; omega))) (ca_cons (CN.ce (cn_lst (ca_cons (CN.ce (cn_lst (ca_cons c_int ca_nil))) ca_nil))) ca_nil))))))))))) (b := .lst (badL m)) rfl) rfl) ?_
  by_cases h9 : z % 18 < 9
  · have hlt : z % 18 < ((badL m).length : Nat) := by show z % 18 < ((9 : Nat) : Int); omega
    refine css_cut (fun _ => False) (cs_if (b := true) (CT.is (ct_lt (c_mod (c_var 0) c_int (by decide)) c_int) (decide_eq_true h9)) (fun _ => css_one (cs_ret (CE.ex (f := id) (x := (badL m)[(z % 18).toNat]'(by omega)) (c_ix (c_var 2) (c_mod (c_var 0) c_int (by decide)) (atI_get z0 hlt)) (badL_ok _ (List.getElem_mem _))) rfl)) fun h => by cases h) fun _ h => h.elim
  refine css_seq (cs_if (b := false) (CT.is (ct_lt (c_mod (c_var 0) c_int (by decide)) c_int) (decide_eq_false h9)) (fun h => by cases h) fun _ => css_nil rfl) ?_
  obtain ⟨xs, hxs⟩ : ∃ xs : List Int, xs = [0, 2, 1, 1, 0].take (1 + m % 5).toNat := ⟨_, rfl⟩
  have hxl : 1 ≤ xs.length ∧ xs.length ≤ 5 := by
    rw [hxs, List.length_take]
    show 1 ≤ min _ 5 ∧ min _ 5 ≤ 5
    omega
  refine css_seq (cs_setO 3 nd (CN.is (cn_slice (CN.ce (cn_lst (l := ([0, 2, 1, 1, 0] : List Int).map AV.int) (ca_cons c_int (ca_cons c_int (ca_cons c_int (ca_cons c_int (ca_cons c_int ca_nil))))))) co_none (co_some (c_add c_int (c_mod (c_var 1) c_int (by decide))))) (m := xs.map AV.int) (by rw [cut_map, cut_toI _ (by omega), hxs])) rfl) ?_
  have j0 := Int.emod_nonneg (z / 18) (show (xs.length : Int) ≠ 0 by omega)
  have j1 := Int.emod_lt_of_pos (z / 18) (show (0 : Int) < (xs.length : Int) by omega)
  have hlt : z % 18 - 9 < ((badB m).length : Nat) := by show z % 18 - 9 < ((9 : Nat) : Int); omega
  refine css_seq (cs_sub 3 (l := xs.map AV.int) (a := (badB m)[(z % 18 - 9).toNat]'(by omega)) (c_ix (CE.is (CN.ce (cn_lst (ca_cons c_non (ca_cons c_str (ca_cons c_bl (ca_cons c_bl (ca_cons (c_sub (c_neg c_int) (c_var 1)) (ca_cons (CN.ce (cn_lst (ca_cons c_int ca_nil))) (ca_cons (c_tup (ca_cons c_int ca_nil)) (ca_cons (CR.ce cr_dic0) (ca_cons c_str ca_nil))))))))))) (b := .lst (badB m)) rfl) (c_sub (c_mod (c_var 0) c_int (by decide)) c_int) (atI_get (by omega) hlt))
    (ce_own 3 (l := xs.map AV.int) (c_mod (c_fdiv (c_var 0) c_int ⟨by decide, by decide⟩) (c_lenI T.len (c_var 3)) (by omega))) (j := (z / 18 % xs.length).toNat) (by rw [List.length_map]; exact ixN_of j0 j1) rfl) ?_
  refine css_fix 3 ?_
  exact css_one (cs_ret (CE.ex (f := id) (x := .lst ((xs.map AV.int).set (z / 18 % xs.length).toNat ((badB m)[(z % 18 - 9).toNat]'(by omega)))) (c_var 3) (bad_list (by omega) (by omega) (badB_ok hm _ (List.getElem_mem _)))) rfl)

abbrev ltN : List Str := ["_law_kind", "_law_which", "_law_more", "_law_strange", "_law_bad", "_law_ring", "_law_colours", "_law_door", "error", "_law_found"]
theorem scLawTold : FnScope ltN ["_law_kind", "_law_which", "_law_more"] (defScope s__law_told) := ⟨rfl, rfl, rfl, by decide +kernel, rfl, by decide +kernel, by decide +kernel⟩
def dueK (k : Int) : List Bool := [decide (nth [0, 1, 2, 3, 3, 0] k = 0), decide (nth [0, 1, 2, 3, 3, 0] k = 1), decide (nth [0, 1, 2, 3, 3, 0] k = 2), decide (nth [0, 1, 2, 3, 3, 0] k = 3), true]
def RLawTold (K : PySem.W.Frag) (as : List AV) (a : AV) : Prop := ∃ k w m : Int, as = [.int k, .int w, .int m] ∧ 0 ≤ k ∧ k < 6 ∧ 0 ≤ m ∧ m ≤ 1000 ∧ a = .lst ((dueK k).map AV.bl)
def strL (m : Int) : List AV := [.non, .str "2", .bl true, .bl false, .int (-1 - m), .lst [.int 2], .tup [.int 2], .dic []]
/-- each of them is no number, or one below 0 -/
theorem strL_ok {K : PySem.W.Frag} {m : Int} (hm : 0 ≤ m) : ∀ a ∈ strL m, NoInt K a ∨ a = .int (-1 - m) := by
  intro a ha
  rcases List.mem_cons.mp ha with rfl | ha
  · exact .inl no_non
  rcases List.mem_cons.mp ha with rfl | ha
  · exact .inl (no_str _)
  rcases List.mem_cons.mp ha with rfl | ha
  · exact .inl (no_bl _)
  rcases List.mem_cons.mp ha with rfl | ha
  · exact .inl (no_bl _)
  rcases List.mem_cons.mp ha with rfl | ha
  · exact .inr rfl
  rcases List.mem_cons.mp ha with rfl | ha
  · exact .inl (no_lst _)
  rcases List.mem_cons.mp ha with rfl | ha
  · exact .inl (no_tup _)
  rcases List.mem_cons.mp ha with rfl | ha
  · exact .inl (no_dic _)
  · cases ha
theorem strL_col {K : PySem.W.Frag} {m : Int} (hm : 0 ≤ m) : ∀ a ∈ strL m, NoCol K a := fun a ha => by
  rcases strL_ok hm a ha with h | rfl
  · exact .ty h
  · exact .int (by omega)
theorem strL_len {K : PySem.W.Frag} {m : Int} (hm : 0 ≤ m) : ∀ a ∈ strL m, NoLen K a := fun a ha => by
  rcases strL_ok hm a ha with h | rfl
  · exact .ty h
  · exact .int (by omega)
theorem strL_num {K : PySem.W.Frag} {m q : Int} (hm : 0 ≤ m) : ∀ a ∈ strL m, NoNum K q a := fun a ha => by
  rcases strL_ok hm a ha with h | rfl
  · exact .ty h
  · exact .int (by omega)
def str7 : List AV := [.non, .str "2", .bl true, .bl false, .lst [.int 2], .tup [.int 2], .dic []]
theorem str7_ok {K : PySem.W.Frag} : ∀ a ∈ str7, NoInt K a := by
  intro a ha
  rcases List.mem_cons.mp ha with rfl | ha
  · exact no_non
  rcases List.mem_cons.mp ha with rfl | ha
  · exact no_str _
  rcases List.mem_cons.mp ha with rfl | ha
  · exact no_bl _
  rcases List.mem_cons.mp ha with rfl | ha
  · exact no_bl _
  rcases List.mem_cons.mp ha with rfl | ha
  · exact no_lst _
  rcases List.mem_cons.mp ha with rfl | ha
  · exact no_tup _
  rcases List.mem_cons.mp ha with rfl | ha
  · exact no_dic _
  · cases ha
def tryBody (st : Stmt) : List Stmt := match (defBody st).getD 1 (.Pass ⟨0, 0, 0, 0⟩) with
  | .Try b _ _ _ _ => b
  | _ => []
theorem rings24 : ringsN 2 4 = 6 := by decide +kernel
/-- the rings that are handed with too few colours -/
def fewL (m : Int) : List (List Int) := [[0, 1 + m % 3], [2], [0, 0, 1, 1 + m], [9, 0]]
theorem fewL_ok {m : Int} (hm : 0 ≤ m) : ∀ r ∈ fewL m, Ring r ∧ 1 ≤ maxI r := by
  have m0 := Int.emod_nonneg m (show (3 : Int) ≠ 0 by decide)
  intro r hr
  rcases List.mem_cons.mp hr with rfl | hr
  · refine ⟨⟨by simp, by simp, fun x hx => ?_⟩, ?_⟩
    · rcases List.mem_cons.mp hx with rfl | hx
      · decide
      · rw [List.mem_singleton.mp hx]; omega
    · have := (maxI_ex (ns := [0, 1 + m % 3]) (by simp)).2 (1 + m % 3) (by simp)
      omega
  rcases List.mem_cons.mp hr with rfl | hr
  · exact ⟨⟨by decide, by decide, by decide⟩, by decide⟩
  rcases List.mem_cons.mp hr with rfl | hr
  · refine ⟨⟨by simp, by simp, fun x hx => ?_⟩, ?_⟩
    · rcases List.mem_cons.mp hx with rfl | hx
      · decide
      rcases List.mem_cons.mp hx with rfl | hx
      · decide
      rcases List.mem_cons.mp hx with rfl | hx
      · decide
      · rw [List.mem_singleton.mp hx]; omega
    · have := (maxI_ex (ns := [0, 0, 1, 1 + m]) (by simp)).2 (1 + m) (by simp)
      omega
  rcases List.mem_cons.mp hr with rfl | hr
  · exact ⟨⟨by decide, by decide, by decide⟩, by decide⟩
  · cases hr
theorem ok_law_told (F : Fun K "_law_told" "_law_told" s__law_told f fd) (T : Tops mg) (hV : mg "ValueError" = none) (Gb : Has P w K mg base "_law_bad_ring" 1 (spA (RBadRing K))) (X1 : HasX P w K mg base "_law_with_ring" 5 (spX (RWithRing K))) (X2 : HasX P w K mg base "_law_with_colours" 5 (spX (RWithColours K))) (X3 : HasX P w K mg base "_law_with_length" 5 (spX (RWithLength K)))
    (X4 : HasX P w K mg base "ring_by" 4 (spX (RRingByX K))) (X5 : HasX P w K mg base "of_period" 3 (spX (ROfPeriodX K))) (X6 : HasX P w K mg base "turned" 3 (spX (RTurnedX K))) (X7 : HasX P w K mg base "number_of" 4 (spX (RNoRow K))) (X8 : HasX P w K mg base "after" 4 (spX (RNoRow K))) (X9 : HasX P w K mg base "before" 4 (spX (RNoRow K)))
    (gE : mg "RingError" = some (.ref (He.ga K "RingError"))) (eR : Err K mg "BadRing") (eC : Err K mg "BadColours") (eL : Err K mg "BadLength") (eN : Err K mg "BadNumber") : FnOk P w K mg base CX0 6 f fd ["_law_kind", "_law_which", "_law_more"] (spA (RLawTold K)) := by
  refine okA F scLawTold (fun as l ⟨_, _, _, h, _⟩ => by rw [h]; rfl) fun cdv A outer s H E hr as a ⟨k, z, m, h, hk0, hk6, hm, hm2, ha⟩ => ?_
  subst h ha
  have nd : ltN.Nodup := scLawTold.nd
  refine css_seq (cs_set 3 nd (CE.is (CN.ce (cn_lst (ca_cons c_non (ca_cons c_str (ca_cons c_bl (ca_cons c_bl (ca_cons (c_sub (c_neg c_int) (c_var 2)) (ca_cons (CN.ce (cn_lst (ca_cons c_int ca_nil))) (ca_cons (c_tup (ca_cons c_int ca_nil)) (ca_cons (CR.ce cr_dic0) ca_nil)))))))))) (b := .lst (strL m)) rfl) rfl) ?_
  obtain ⟨x, e, hd, hb⟩ : ∃ x : Str, Err K mg x ∧ dueK k = [decide (x = "BadRing"), decide (x = "BadColours"), decide (x = "BadLength"), decide (x = "BadNumber"), true] ∧
      ∀ (W : WX) (pn : List (Addr × Obj)) (xe : Value → Shared → Prop), Takes ((cxOf CX0 P w K mg base ltN "_law_told" (defScope s__law_told) f cdv A outer s H E).nox.tr pn xe) W →
        RSs ((cxOf CX0 P w K mg base ltN "_law_told" (defScope s__law_told) f cdv A outer s H E).nox.tr pn xe) W 10 (tryBody s__law_told) [some (.val (.int k)), some (.val (.int z)), some (.val (.int m)), some (.val (.lst (strL m))), none, none, none, none, none, none] (He.ga K x) := by
    rcases (show k = 0 ∨ k = 1 ∨ k = 2 ∨ k = 3 ∨ k = 4 ∨ k = 5 by omega) with rfl | rfl | rfl | rfl | rfl | rfl
    · refine ⟨"BadRing", eR, by decide +kernel, fun W pn xe tk => ?_⟩
      exact rss_head (rs_if (b := true) (CT.is (ct_eq (c_var 0) c_int) (by decide)) (fun _ => rss_head (rs_expr (re_call X1 tk hr (ca_cons (c_mod (c_fdiv (c_var 1) c_int ⟨by decide, by decide⟩) c_int (by decide)) (ca_cons (c_call Gb (hr.mono (by decide)) (ca_cons (c_var 1) (ca_cons (c_var 2) ca_nil)) ⟨z, m, rfl, hm, hm2, rfl⟩) ca_nil)) ⟨_, rfl, rfl⟩))) fun h => by cases h)
    · refine ⟨"BadColours", eC, by decide +kernel, fun W pn xe tk => ?_⟩
      have q0 := Int.emod_nonneg z (show (9 : Int) ≠ 0 by decide)
      have q1 := Int.emod_lt_of_pos z (show (0 : Int) < 9 by decide)
      have hlt : z % 9 < ((strL m ++ [AV.int 0]).length : Nat) := q1
      have hall : ∀ a ∈ strL m ++ [AV.int 0], NoCol K a := fun a ha => by
        rcases List.mem_append.mp ha with ha | ha
        · exact strL_col hm a ha
        · rw [List.mem_singleton.mp ha]; exact .int (by decide)
      exact rss_head (rs_if (b := false) (CT.is (ct_eq (c_var 0) c_int) (by decide)) (fun h => by cases h) (fun _ => rss_head (rs_if (b := true) (CT.is (ct_eq (c_var 0) c_int) (by decide)) (fun _ => rss_head (rs_expr (re_call X2 tk hr (ca_cons (c_mod (c_fdiv (c_var 1) c_int ⟨by decide, by decide⟩) c_int (by decide)) (ca_cons (c_ix (CN.ce (cn_cat (c_var 3) (CN.ce (cn_lst (ca_cons c_int ca_nil))) (Nat.le_of_ble_eq_true rfl))) (c_mod (c_var 1) c_int (by decide)) (atI_get q0 hlt)) ca_nil)) ⟨_, _, rfl, hall _ (List.getElem_mem _), rfl⟩))) fun h => by cases h)))
    · refine ⟨"BadLength", eL, by decide +kernel, fun W pn xe tk => ?_⟩
      have q0 := Int.emod_nonneg z (show (11 : Int) ≠ 0 by decide)
      have q1 := Int.emod_lt_of_pos z (show (0 : Int) < 11 by decide)
      have hlt : z % 11 < ((strL m ++ [AV.int 0, AV.int 201, AV.int (201 + m)]).length : Nat) := q1
      have hall : ∀ a ∈ strL m ++ [AV.int 0, AV.int 201, AV.int (201 + m)], NoLen K a := fun a ha => by
        rcases List.mem_append.mp ha with ha | ha
        · exact strL_len hm a ha
        rcases List.mem_cons.mp ha with rfl | ha
        · exact .int (by decide)
        rcases List.mem_cons.mp ha with rfl | ha
        · exact .int (by decide)
        · rw [List.mem_singleton.mp ha]; exact .int (by omega)
      exact rss_head (rs_if (b := false) (CT.is (ct_eq (c_var 0) c_int) (by decide)) (fun h => by cases h) (fun _ => rss_head (rs_if (b := false) (CT.is (ct_eq (c_var 0) c_int) (by decide)) (fun h => by cases h) (fun _ => rss_head (rs_if (b := true) (CT.is (ct_eq (c_var 0) c_int) (by decide)) (fun _ => rss_head (rs_expr (re_call X3 tk hr (ca_cons (c_mod (c_fdiv (c_var 1) c_int ⟨by decide, by decide⟩) c_int (by decide)) (ca_cons (c_ix (CN.ce (cn_cat (c_var 3) (CN.ce (cn_lst (ca_cons c_int (ca_cons c_int (ca_cons (c_add c_int (c_var 2)) ca_nil))))) (Nat.le_of_ble_eq_true rfl))) (c_mod (c_var 1) c_int (by decide)) (atI_get q0 hlt)) ca_nil)) ⟨_, _, rfl, hall _ (List.getElem_mem _), rfl⟩))) fun h => by cases h)))))
    · refine ⟨"BadNumber", eN, by decide +kernel, fun W pn xe tk => ?_⟩
      have q0 := Int.emod_nonneg z (show (10 : Int) ≠ 0 by decide)
      have q1 := Int.emod_lt_of_pos z (show (0 : Int) < 10 by decide)
      have hlt : z % 10 < ((strL m ++ [AV.int 6, AV.int (6 + m)]).length : Nat) := q1
      have hlt2 : z % 10 < ((strL m ++ [AV.int 0, AV.int 0]).length : Nat) := q1
      have hall : ∀ a ∈ strL m ++ [AV.int 6, AV.int (6 + m)], NoNum K (ringsN 2 (4 : Nat)) a := fun a ha => by
        rw [rings24]
        rcases List.mem_append.mp ha with ha | ha
        · exact strL_num hm a ha
        rcases List.mem_cons.mp ha with rfl | ha
        · exact .int (by decide)
        · rw [List.mem_singleton.mp ha]; exact .int (by omega)
      have hall2 : ∀ a ∈ strL m ++ [AV.int 0, AV.int 0], NoCol K a := fun a ha => by
        rcases List.mem_append.mp ha with ha | ha
        · exact strL_col hm a ha
        rcases List.mem_cons.mp ha with rfl | ha
        · exact .int (by decide)
        · rw [List.mem_singleton.mp ha]; exact .int (by decide)
      refine rss_head (rs_if (b := false) (CT.is (ct_eq (c_var 0) c_int) (by decide)) (fun h => by cases h) (fun _ => rss_head (rs_if (b := false) (CT.is (ct_eq (c_var 0) c_int) (by decide)) (fun h => by cases h) (fun _ => rss_head (rs_if (b := false) (CT.is (ct_eq (c_var 0) c_int) (by decide)) (fun h => by cases h) (fun _ => rss_head (rs_if (b := true) (CT.is (ct_eq (c_var 0) c_int) (by decide)) (fun _ => ?_) fun h => by cases h)))))))
      refine rss_seq (cs_set 4 nd (c_ix (CN.ce (cn_cat (c_var 3) (CN.ce (cn_lst (ca_cons c_int (ca_cons (c_add c_int (c_var 2)) ca_nil)))) (Nat.le_of_ble_eq_true rfl))) (c_mod (c_var 1) c_int (by decide)) (atI_get q0 hlt)) rfl) ?_
      exact rss_head (rs_expr (re_if (ct_eq (c_mod (c_fdiv (c_var 1) c_int ⟨by decide, by decide⟩) c_int (by decide)) c_int)
        (fun _ => re_call X4 tk (hr.mono (by decide)) (ca_cons c_int (ca_cons c_int (ca_cons (c_var 4) ca_nil))) (.inr (.inr ⟨2, 4, _, rfl, ⟨by decide, by decide⟩, by decide, by decide, hall _ (List.getElem_mem _), rfl⟩)))
        (fun _ => re_call X5 tk (hr.mono (by decide)) (ca_cons c_int (ca_cons c_int (ca_cons (c_ix (CN.ce (cn_cat (c_var 3) (CN.ce (cn_lst (ca_cons c_int (ca_cons c_int ca_nil)))) (Nat.le_of_ble_eq_true rfl))) (c_mod (c_var 1) c_int (by decide)) (atI_get q0 hlt2)) ca_nil))) (.inr (.inr ⟨2, 4, _, rfl, by decide, by decide, by decide, hall2 _ (List.getElem_mem _), rfl⟩)))))
    · refine ⟨"BadNumber", eN, by decide +kernel, fun W pn xe tk => ?_⟩
      have q0 := Int.emod_nonneg z (show (7 : Int) ≠ 0 by decide)
      have q1 := Int.emod_lt_of_pos z (show (0 : Int) < 7 by decide)
      have hlt : z % 7 < (str7.length : Nat) := q1
      exact rss_head (rs_if (b := false) (CT.is (ct_eq (c_var 0) c_int) (by decide)) (fun h => by cases h) (fun _ => rss_head (rs_if (b := false) (CT.is (ct_eq (c_var 0) c_int) (by decide)) (fun h => by cases h) (fun _ => rss_head (rs_if (b := false) (CT.is (ct_eq (c_var 0) c_int) (by decide)) (fun h => by cases h) (fun _ => rss_head (rs_if (b := false) (CT.is (ct_eq (c_var 0) c_int) (by decide)) (fun h => by cases h) (fun _ => rss_head (rs_if (b := true) (CT.is (ct_eq (c_var 0) c_int) (by decide)) (fun _ => rss_head (rs_expr (re_call X6 tk (hr.mono (by decide)) (ca_cons (CN.ce (cn_lst (l := ([0, 1] : List Int).map AV.int) (ca_cons c_int (ca_cons c_int ca_nil)))) (ca_cons (c_ix (CE.is (CN.ce (cn_cat (CN.ce (cn_slice (c_var 3) co_none (co_some c_int))) (CN.ce (cn_slice (c_var 3) (co_some c_int) co_none)) (Nat.le_of_ble_eq_true rfl))) (b := .lst str7) rfl) (c_mod (c_var 1) c_int (by decide)) (atI_get q0 hlt)) ca_nil)) (.inr ⟨[0, 1], _, rfl, ring01, str7_ok _ (List.getElem_mem _), rfl⟩)))) fun h => by cases h)))))))))
    · refine ⟨"BadRing", eR, by decide +kernel, fun W pn xe tk => ?_⟩
      have q0 := Int.emod_nonneg z (show (4 : Int) ≠ 0 by decide)
      have q1 := Int.emod_lt_of_pos z (show (0 : Int) < 4 by decide)
      obtain ⟨i, hi⟩ : ∃ i : Nat, (i : Int) = z % 4 := ⟨(z % 4).toNat, by omega⟩
      have hil : i < (fewL m).length := by show i < 4; omega
      obtain ⟨r, hr1⟩ : ∃ r, r = (fewL m)[i] := ⟨_, rfl⟩
      obtain ⟨hR, hmx⟩ := fewL_ok hm r (by rw [hr1]; exact List.getElem_mem hil)
      refine rss_head (rs_if (b := false) (CT.is (ct_eq (c_var 0) c_int) (by decide)) (fun h => by cases h) (fun _ => rss_head (rs_if (b := false) (CT.is (ct_eq (c_var 0) c_int) (by decide)) (fun h => by cases h) (fun _ => rss_head (rs_if (b := false) (CT.is (ct_eq (c_var 0) c_int) (by decide)) (fun h => by cases h) (fun _ => rss_head (rs_if (b := false) (CT.is (ct_eq (c_var 0) c_int) (by decide)) (fun h => by cases h) (fun _ => rss_head (rs_if (b := false) (CT.is (ct_eq (c_var 0) c_int) (by decide)) (fun h => by cases h) (fun _ => ?_))))))))))
      refine rss_seq (cs_set 5 nd (c_ix (a := .il r) (CE.is (CN.ce (cn_lst (ca_cons (CN.ce (cn_lst (ca_cons c_int (ca_cons (c_add c_int (c_mod (c_var 2) c_int (by decide))) ca_nil)))) (ca_cons (CN.ce (cn_lst (ca_cons c_int ca_nil))) (ca_cons (CN.ce (cn_lst (ca_cons c_int (ca_cons c_int (ca_cons c_int (ca_cons (c_add c_int (c_var 2)) ca_nil)))))) (ca_cons (CN.ce (cn_lst (ca_cons c_int (ca_cons c_int ca_nil)))) ca_nil)))))) (b := .ll (fewL m)) rfl) (CE.is (c_mod (c_var 1) c_int (by decide)) (b := .int (i : Int)) (by rw [hi])) (by rw [atI_at (f := AV.il) (xs := fewL m) (by omega) (by omega), hr1]; simp only [Int.toNat_natCast])) rfl) ?_
      have u0 := Int.emod_nonneg (z / 4) (show maxI r ≠ 0 by omega)
      have u1 := Int.emod_lt_of_pos (z / 4) (show 0 < maxI r by omega)
      refine rss_seq (cs_set 6 nd (c_sub (c_max T.max (c_var 5) hR.ne) (c_mod (c_fdiv (c_var 1) c_int ⟨by decide, by decide⟩) (c_max T.max (c_var 5) hR.ne) (by omega))) rfl) ?_
      refine rss_seq (cs_set 7 nd (c_mod (c_fdiv (c_var 1) c_int ⟨by decide, by decide⟩) c_int (by decide)) rfl) ?_
      have hN : RNoRow K [.int (maxI r - z / 4 % maxI r), .il r] (He.ga K "BadRing") := .inr (.inr ⟨_, r, rfl, by omega, hR, by omega, rfl⟩)
      exact rss_head (rs_expr (re_if (ct_eq (c_var 7) c_int) (fun _ => re_call X7 tk (hr.mono (by decide)) (ca_cons (c_var 6) (ca_cons (c_var 5) ca_nil)) hN)
        (fun _ => re_if (ct_eq (c_var 7) c_int) (fun _ => re_call X8 tk (hr.mono (by decide)) (ca_cons (c_var 6) (ca_cons (c_var 5) ca_nil)) hN) (fun _ => re_call X9 tk (hr.mono (by decide)) (ca_cons (c_var 6) (ca_cons (c_var 5) ca_nil)) hN))))
  refine css_cut (fun _ => False) (cs_tryR 8 nd rfl gE e.m hb (fun a oe pn hz hv => ?_)) fun _ h => h.elim
  refine css_seq (cs_set 9 nd (CE.is (CN.ce (cn_lst (ca_cons (c_isE e.c hz hv (c_var 8) (c_cls eR.k.g) relV_ref e.r T.isinstance) (ca_cons (c_isE e.c hz hv (c_var 8) (c_cls eC.k.g) relV_ref e.o T.isinstance) (ca_cons (c_isE e.c hz hv (c_var 8) (c_cls eL.k.g) relV_ref e.l T.isinstance) ca_nil))))) (b := .lst ([decide (x = "BadRing"), decide (x = "BadColours"), decide (x = "BadLength")].map AV.bl)) rfl) rfl) ?_
  refine css_one (cs_ret (CE.is (CN.ce (cn_cat (c_var 9) (CN.ce (cn_lst (ca_cons (c_isE e.c hz hv (c_var 8) (c_cls eN.k.g) relV_ref e.n T.isinstance) (ca_cons (c_isE e.c hz hv (c_var 8) (c_bltn (v := .ty "ValueError") hV boot_ValueError rfl) relV_ty e.v T.isinstance) ca_nil)))) (by simp))) ?_) rfl)
  rw [hd]; rfl

abbrev lawN : List Str := ["_law_script", "_law_cell", "_law_kind", "_law_sort", "_law_due", "_law_at"]
theorem scLaw : FnScope lawN ["_law_script"] (defScope s_law) := ⟨rfl, rfl, rfl, by decide +kernel, rfl, by decide +kernel, by decide +kernel⟩
theorem shaped_bls (bs : List Bool) : SeqAt.shaped (.list (bs.map PyData.bool)) = true := by
  have h1 : ∀ bs : List Bool, PyData.canLayAll0 (bs.map PyData.bool) = true := fun bs => by
    induction bs with
    | nil => simp [PyData.canLayAll0]
    | cons b bs ih => simp [PyData.canLayAll0, PyData.canLay0, ih]
  have h2 : ∀ bs : List Bool, PyData.depthAll (bs.map PyData.bool) ≤ 1 := fun bs => by
    induction bs with
    | nil => simp [PyData.depthAll]
    | cons b bs ih => simp only [List.map_cons, PyData.depthAll, PyData.depth]; omega
  show (PyData.canLay0 (.list (bs.map PyData.bool)) && decide (PyData.depth (.list (bs.map PyData.bool)) ≤ 64)) = true
  rw [Bool.and_eq_true]
  refine ⟨by simp only [PyData.canLay0]; exact h1 bs, decide_eq_true ?_⟩
  have := h2 bs
  simp only [PyData.depth]
  omega
theorem eqv_bls (bs cs : List Bool) : PyData.eqv (.list (bs.map PyData.bool)) (.list (cs.map PyData.bool)) = decide (bs = cs) := by
  rw [PyData.eqv]
  exact eqv_map (fun x y => by rw [PyData.eqv]; exact Bool.beq_eq_decide_eq x y) bs cs
theorem per_zeros : per (List.replicate 200 0) = 1 := by decide +kernel
theorem rings_one : ringsN 1 200 = 1 := by decide +kernel
theorem rk_six : rk 7 1 [6] = 6 := by decide +kernel
theorem in_six : [6] ∈ necks 7 1 := by decide +kernel
theorem last_one : ∀ z ∈ necks 1 1, lexlt (leastR [0]) z = false := by decide +kernel
theorem ok_law (F : Fun K "law" "law" s_law f fd) (T : Tops mg) (Gt : Has P w K mg base "_law_told" 6 (spA (RLawTold K))) (Gp : Has P w K mg base "period" 3 (spA RPeriod)) (Gr : Has P w K mg base "rings" 3 (spA RRings)) (Gb : Has P w K mg base "ring_by" 4 (spN RRingBy)) (Ga : Has P w K mg base "after" 4 (spA RAfterN)) :
    FnOk P w K mg base CX0 7 f fd ["_law_script"] (spA (RLaw K)) := by
  refine okA F scLaw (fun as l ⟨ns, h, _⟩ => by rw [h]; rfl) fun cdv A outer s H E hr as a ⟨ns, h, hns, hbit, ha⟩ => ?_
  subst h ha
  have nd : lawN.Nodup := scLaw.nd
  refine css_cut (fun τ' => ∃ x1 x2 x3 x4, τ' = [some (.val (.rdo K (ns.map AV.int))), x1, x2, x3, x4, none])
    (cs_forN 1 (xs := ns) (φ := AV.int) (fun _ τ' => ∃ x1 x2 x3 x4, τ' = [some (.val (.rdo K (ns.map AV.int))), x1, x2, x3, x4, none]) nd (ci_listR (c_var 0)) ⟨_, _, _, _, rfl⟩ (fun i z τ1 _ _ hI => ?_) fun τ' h => h) ?_
  · obtain ⟨x1, x2, x3, x4, rfl⟩ := hI
    have k0 := Int.emod_nonneg z (show (6 : Int) ≠ 0 by decide)
    have k1 := Int.emod_lt_of_pos z (show (0 : Int) < 6 by decide)
    have m0 := Int.emod_nonneg (z / 600000) (show (1000 : Int) ≠ 0 by decide)
    have m1 := Int.emod_lt_of_pos (z / 600000) (show (0 : Int) < 1000 by decide)
    refine css_seq (cs_set 2 nd (c_mod (c_var 1) c_int (by decide)) rfl) ?_
    generalize hk : z % 6 = k at k0 k1
    refine css_seq (cs_set 3 nd (c_ixT (c_tup (l := ([0, 1, 2, 3, 3, 0] : List Int).map AV.int) (ca_cons c_int (ca_cons c_int (ca_cons c_int (ca_cons c_int (ca_cons c_int (ca_cons c_int ca_nil))))))) (c_var 2) (atI_nth k0 (by simpa using k1))) rfl) ?_
    refine css_seq (cs_set 4 nd (CE.is (CN.ce (cn_cat (CN.ce (cn_lc1 5 (φ := AV.int) (χ := fun x => AV.bl (decide (nth [0, 1, 2, 3, 3, 0] k = x))) (xs := rng 0 4) (fun _ => true) nd (CI.is (ci_range1 c_int (by decide) T.range) rfl) (by decide) (fun _ _ _ _ _ _ _ => cts_nil) (fun x hx _ _ _ _ _ _ => c_eq (c_var 3) (c_var 5)))) (CN.ce (cn_lst (ca_cons c_bl ca_nil))) (Nat.le_of_ble_eq_true rfl))) (b := .lst ((dueK k).map AV.bl)) rfl) rfl) ?_
    refine css_one (cs_if (b := false) (CT.is (ct_neD hr.units (c_call Gt hr (ca_cons (c_var 2) (ca_cons (c_mod (c_fdiv (c_var 1) c_int ⟨by decide, by decide⟩) c_int (by decide)) (ca_cons (c_mod (c_fdiv (c_var 1) c_int ⟨by decide, by decide⟩) c_int (by decide)) ca_nil))) ⟨k, _, _, rfl, k0, k1, m0, by omega, rfl⟩) (c_var 4) (isd_map isd_bl (dueK k)) (isd_map isd_bl (dueK k)) (shaped_bls _) (shaped_bls _)) (by rw [eqv_bls]; simp)) (fun h => by cases h) fun _ => css_nil ⟨_, _, _, _, rfl⟩)
  rintro τ' ⟨x1, x2, x3, x4, rfl⟩
  have hz : Ring (List.replicate 200 0) := ⟨by decide, by decide, fun x hx => by rw [List.eq_of_mem_replicate hx]; exact Int.le_refl _⟩
  have w0 : Wd ((1 : Nat) : Int) 1 [0] := wd_of rfl (by decide)
  refine css_one (cs_ret (CE.is (c_and (c_eq (c_call Gp (hr.mono (by decide)) (ca_cons (CE.is (CN.ce (cn_rep (CN.ce (cn_lst (ca_cons c_int ca_nil))) c_int (by decide) (by decide))) (b := .il (List.replicate 200 0)) (by rw [rep_one, AV.il, List.map_replicate]; rfl)) ca_nil) ⟨_, rfl, hz, rfl⟩) c_int) fun _ =>
    c_and (c_eq (c_call Gr (hr.mono (by decide)) (ca_cons c_int (ca_cons c_int ca_nil)) ⟨1, 200, rfl, ⟨by decide, by decide⟩, by decide, by decide, rfl⟩) c_int) fun _ =>
    c_and (c_eqL hr.units (CN.ce (cn_call Gb (hr.mono (by decide)) (ca_cons c_int (ca_cons c_int (ca_cons c_int ca_nil))) ⟨7, 1, 6, [6], rfl, ⟨by decide, by decide⟩, by decide, by decide, in_six, rk_six, rfl⟩)) (CN.ce (cn_lst (l := ([6] : List Int).map AV.int) (ca_cons c_int ca_nil)))) fun _ =>
    c_one (c_isN (c_call Ga (hr.mono (by decide)) (ca_cons c_int (ca_cons (CN.ce (cn_lst (l := ([0] : List Int).map AV.int) (ca_cons c_int ca_nil))) ca_nil)) ⟨1, 1, [0], rfl, w0, by decide, by decide, by decide, last_one, rfl⟩) isN_non)) ?_) rfl)
  rw [per_zeros, rings_one]; rfl

end
end K07
set_option Elab.async false
set_option linter.all false
set_option maxRecDepth 100000
set_option maxHeartbeats 0
namespace K07
open PySem PySem.Spec PyProof.Rows L2 Ab RM NK
def d0 : He.DefD := ⟨("is_number", none), "is_number", "is_number", defArgs s_is_number, defBody s_is_number, defScope s_is_number, [], []⟩
def d1 : He.DefD := ⟨("is_number", none), "is_number", "is_number", defArgs s_is_number, defBody s_is_number, defScope s_is_number, [], []⟩
def d2 : He.DefD := ⟨("asked_ring", none), "asked_ring", "asked_ring", defArgs s_asked_ring, defBody s_asked_ring, defScope s_asked_ring, [], []⟩
def d3 : He.DefD := ⟨("asked_ring", none), "asked_ring", "asked_ring", defArgs s_asked_ring, defBody s_asked_ring, defScope s_asked_ring, [], []⟩
def d4 : He.DefD := ⟨("turn_of", none), "turn_of", "turn_of", defArgs s_turn_of, defBody s_turn_of, defScope s_turn_of, [], []⟩
def d5 : He.DefD := ⟨("turned", none), "turned", "turned", defArgs s_turned, defBody s_turned, defScope s_turned, [], []⟩
def d6 : He.DefD := ⟨("turned", none), "turned", "turned", defArgs s_turned, defBody s_turned, defScope s_turned, [], []⟩
def d7 : He.DefD := ⟨("least_turn", none), "least_turn", "least_turn", defArgs s_least_turn, defBody s_least_turn, defScope s_least_turn, [], []⟩
def d8 : He.DefD := ⟨("least", none), "least", "least", defArgs s_least, defBody s_least, defScope s_least, [], []⟩
def d9 : He.DefD := ⟨("least", none), "least", "least", defArgs s_least, defBody s_least, defScope s_least, [], []⟩
def d10 : He.DefD := ⟨("period_of", none), "period_of", "period_of", defArgs s_period_of, defBody s_period_of, defScope s_period_of, [], []⟩
def d11 : He.DefD := ⟨("period", none), "period", "period", defArgs s_period, defBody s_period, defScope s_period, [], []⟩
def d12 : He.DefD := ⟨("period", none), "period", "period", defArgs s_period, defBody s_period, defScope s_period, [], []⟩
def d13 : He.DefD := ⟨("asked_colours", none), "asked_colours", "asked_colours", defArgs s_asked_colours, defBody s_asked_colours, defScope s_asked_colours, [], []⟩
def d14 : He.DefD := ⟨("asked_colours", none), "asked_colours", "asked_colours", defArgs s_asked_colours, defBody s_asked_colours, defScope s_asked_colours, [], []⟩
def d15 : He.DefD := ⟨("asked_length", none), "asked_length", "asked_length", defArgs s_asked_length, defBody s_asked_length, defScope s_asked_length, [], []⟩
def d16 : He.DefD := ⟨("asked_length", none), "asked_length", "asked_length", defArgs s_asked_length, defBody s_asked_length, defScope s_asked_length, [], []⟩
def d17 : He.DefD := ⟨("power", none), "power", "power", defArgs s_power, defBody s_power, defScope s_power, [], []⟩
def d18 : He.DefD := ⟨("common", none), "common", "common", defArgs s_common, defBody s_common, defScope s_common, [], []⟩
def d19 : He.DefD := ⟨("divisors", none), "divisors", "divisors", defArgs s_divisors, defBody s_divisors, defScope s_divisors, [], []⟩
def d20 : He.DefD := ⟨("free", none), "free", "free", defArgs s_free, defBody s_free, defScope s_free, [], []⟩
def d21 : He.DefD := ⟨("rings", none), "rings", "rings", defArgs s_rings, defBody s_rings, defScope s_rings, [], []⟩
def d22 : He.DefD := ⟨("rings", none), "rings", "rings", defArgs s_rings, defBody s_rings, defScope s_rings, [], []⟩
def d23 : He.DefD := ⟨("of_period", none), "of_period", "of_period", defArgs s_of_period, defBody s_of_period, defScope s_of_period, [], []⟩
def d24 : He.DefD := ⟨("asked_coloured", none), "asked_coloured", "asked_coloured", defArgs s_asked_coloured, defBody s_asked_coloured, defScope s_asked_coloured, [], []⟩
def d25 : He.DefD := ⟨("asked_coloured", none), "asked_coloured", "asked_coloured", defArgs s_asked_coloured, defBody s_asked_coloured, defScope s_asked_coloured, [], []⟩
def d26 : He.DefD := ⟨("shares", none), "shares", "shares", defArgs s_shares, defBody s_shares, defScope s_shares, [], []⟩
def d27 : He.DefD := ⟨("greater", none), "greater", "greater", defArgs s_greater, defBody s_greater, defScope s_greater, [], []⟩
def d28 : He.DefD := ⟨("floor_row", none), "floor_row", "floor_row", defArgs s_floor_row, defBody s_floor_row, defScope s_floor_row, [], []⟩
def d29 : He.DefD := ⟨("number_of", none), "number_of", "number_of", defArgs s_number_of, defBody s_number_of, defScope s_number_of, [], []⟩
def d30 : He.DefD := ⟨("number_of", none), "number_of", "number_of", defArgs s_number_of, defBody s_number_of, defScope s_number_of, [], []⟩
def d31 : He.DefD := ⟨("ring_by", none), "ring_by", "ring_by", defArgs s_ring_by, defBody s_ring_by, defScope s_ring_by, [], []⟩
def d32 : He.DefD := ⟨("ring_by", none), "ring_by", "ring_by", defArgs s_ring_by, defBody s_ring_by, defScope s_ring_by, [], []⟩
def d33 : He.DefD := ⟨("after", none), "after", "after", defArgs s_after, defBody s_after, defScope s_after, [], []⟩
def d34 : He.DefD := ⟨("after", none), "after", "after", defArgs s_after, defBody s_after, defScope s_after, [], []⟩
def d35 : He.DefD := ⟨("after", none), "after", "after", defArgs s_after, defBody s_after, defScope s_after, [], []⟩
def d36 : He.DefD := ⟨("before", none), "before", "before", defArgs s_before, defBody s_before, defScope s_before, [], []⟩
def d37 : He.DefD := ⟨("before", none), "before", "before", defArgs s_before, defBody s_before, defScope s_before, [], []⟩
def d38 : He.DefD := ⟨("before", none), "before", "before", defArgs s_before, defBody s_before, defScope s_before, [], []⟩
def d39 : He.DefD := ⟨("told", none), "told", "told", defArgs s_told, defBody s_told, defScope s_told, [], []⟩
def d40 : He.DefD := ⟨("_law_with_ring", none), "_law_with_ring", "_law_with_ring", defArgs s__law_with_ring, defBody s__law_with_ring, defScope s__law_with_ring, [], []⟩
def d41 : He.DefD := ⟨("_law_with_colours", none), "_law_with_colours", "_law_with_colours", defArgs s__law_with_colours, defBody s__law_with_colours, defScope s__law_with_colours, [], []⟩
def d42 : He.DefD := ⟨("_law_with_length", none), "_law_with_length", "_law_with_length", defArgs s__law_with_length, defBody s__law_with_length, defScope s__law_with_length, [], []⟩
def d43 : He.DefD := ⟨("_law_bad_ring", none), "_law_bad_ring", "_law_bad_ring", defArgs s__law_bad_ring, defBody s__law_bad_ring, defScope s__law_bad_ring, [], []⟩
def d44 : He.DefD := ⟨("_law_told", none), "_law_told", "_law_told", defArgs s__law_told, defBody s__law_told, defScope s__law_told, [], []⟩
def d45 : He.DefD := ⟨("law", none), "law", "law", defArgs s_law, defBody s_law, defScope s_law, [], []⟩
def fnL0 : List He.DefD := [d0, d1, d2, d3, d4, d5, d6, d7, d8, d9, d10, d11]
def fnL1 : List He.DefD := [d12, d13, d14, d15, d16, d17, d18, d19, d20, d21, d22, d23]
def fnL2 : List He.DefD := [d24, d25, d26, d27, d28, d29, d30, d31, d32, d33, d34, d35]
def fnL3 : List He.DefD := [d36, d37, d38, d39, d40, d41, d42, d43, d44, d45]
def fnL : List He.DefD := fnL0 ++ fnL1 ++ fnL2 ++ fnL3
def faL0 : List He.Fa := [.glo "is_number", .glo "asked_ring", .glo "turn_of", .glo "turned", .glo "least_turn", .glo "least", .glo "period_of", .glo "period", .glo "asked_colours", .glo "asked_length", .glo "power", .glo "common"]
def faL1 : List He.Fa := [.glo "divisors", .glo "free", .glo "rings", .glo "of_period", .glo "asked_coloured", .glo "shares", .glo "greater", .glo "floor_row", .glo "number_of", .glo "ring_by", .glo "after", .glo "before"]
def faL2 : List He.Fa := [.glo "told", .glo "_law_with_ring", .glo "_law_with_colours", .glo "_law_with_length", .glo "_law_bad_ring", .glo "_law_told", .glo "law", .free "len", .free "isinstance", .free "int", .free "bool", .free "list"]
def faL3 : List He.Fa := [.free "all", .free "min", .free "sum", .free "range", .free "enumerate", .free "max", .free "zip", .free "str", .free "tuple", .free "abs", .free "ValueError", .int "LONGEST" 200]
def faL4 : List He.Fa := [.glo "RingError", .glo "BadRing", .exc "BadRing", .exm "BadRing" "RingError" true, .glo "BadColours", .exc "BadColours", .exm "BadColours" "RingError" true, .glo "BadLength", .exc "BadLength", .exm "BadLength" "RingError" true, .glo "BadNumber", .exc "BadNumber"]
def faL5 : List He.Fa := [.exm "BadNumber" "RingError" true]
def faL : List He.Fa := faL0 ++ faL1 ++ faL2 ++ faL3 ++ faL4 ++ faL5
def exL (K : PySem.W.Frag) : Bool := [errB K "BadRing", errB K "BadColours", errB K "BadLength", errB K "BadNumber"].all id
abbrev Rw : PySem.W.OpenRow := PySem.W.OpenLaw.row PySem.Challenge.rw_ringkinds_k07_refused
abbrev hkL : PySem.W.Hook := hookX 6 faL fnL exL
def obL (s : PySem.W.SharedT) : He.AlD × Bool := obsXG 6 faL fnL exL (HandSHeadRun.getT s)
theorem obL_eq (s : PySem.W.SharedT) : obL s = hkL.obs s.abs := obsXG_eq (HandSHeadRun.getT_eq s)
def looseL0 : List Str := ["_wall", "RingError", "BadRing", "BadColours", "BadLength", "BadNumber", "LONGEST", "is_number", "asked_ring", "turn_of", "turned", "least_turn"]
def looseL1 : List Str := ["least", "period_of", "period", "Answer", "Turned", "Unlike", "told_of", "asked_colours", "asked_length", "power", "common", "divisors"]
def looseL2 : List Str := ["free", "rings", "rows_of", "of_period", "asked_coloured", "shares", "greater", "floor_row", "number_of", "ring_by", "after", "before"]
def looseL3 : List Str := ["told", "_law_with_ring", "_law_with_colours", "_law_with_length", "_law_bad_ring", "_law_told"]
def looseL : List Str := looseL0 ++ looseL1 ++ looseL2 ++ looseL3
theorem runL (w : World) : HandSHeadRun.RunEq Rw (PySem.W.view Rw.prog [48]) hkL obL 3000 looseL w := by
  intro os
  kernel_rfl
theorem factsL {P : Program} {w : World} {K : PySem.W.Frag} {h : Heap} {mg : Str → Option Value} {f : Addr} (X : K.In h) (G : h.Ns mainGlobals mg) (hfa : mg ("law" : Str) = some (.ref f)) (c : He.SaysD faL fnL K) (cx : exL K = true) :
    ∃ fd : FuncData, (∀ (s : Shared) (v : Value), BindsTo s fd ⟨[v], []⟩ [("_law_script", v)]) ∧ ∀ base : Heap, K.In base → base.Ns mainGlobals mg → FnOk P w K mg base CX0 7 f fd ["_law_script"] (spA (RLaw K)) := by
  have g_is_number := He.glo_ok X G (c.fact 0 (f := .glo "is_number") rfl)
  have g_asked_ring := He.glo_ok X G (c.fact 1 (f := .glo "asked_ring") rfl)
  have g_turn_of := He.glo_ok X G (c.fact 2 (f := .glo "turn_of") rfl)
  have g_turned := He.glo_ok X G (c.fact 3 (f := .glo "turned") rfl)
  have g_least_turn := He.glo_ok X G (c.fact 4 (f := .glo "least_turn") rfl)
  have g_least := He.glo_ok X G (c.fact 5 (f := .glo "least") rfl)
  have g_period_of := He.glo_ok X G (c.fact 6 (f := .glo "period_of") rfl)
  have g_period := He.glo_ok X G (c.fact 7 (f := .glo "period") rfl)
  have g_asked_colours := He.glo_ok X G (c.fact 8 (f := .glo "asked_colours") rfl)
  have g_asked_length := He.glo_ok X G (c.fact 9 (f := .glo "asked_length") rfl)
  have g_power := He.glo_ok X G (c.fact 10 (f := .glo "power") rfl)
  have g_common := He.glo_ok X G (c.fact 11 (f := .glo "common") rfl)
  have g_divisors := He.glo_ok X G (c.fact 12 (f := .glo "divisors") rfl)
  have g_free := He.glo_ok X G (c.fact 13 (f := .glo "free") rfl)
  have g_rings := He.glo_ok X G (c.fact 14 (f := .glo "rings") rfl)
  have g_of_period := He.glo_ok X G (c.fact 15 (f := .glo "of_period") rfl)
  have g_asked_coloured := He.glo_ok X G (c.fact 16 (f := .glo "asked_coloured") rfl)
  have g_shares := He.glo_ok X G (c.fact 17 (f := .glo "shares") rfl)
  have g_greater := He.glo_ok X G (c.fact 18 (f := .glo "greater") rfl)
  have g_floor_row := He.glo_ok X G (c.fact 19 (f := .glo "floor_row") rfl)
  have g_number_of := He.glo_ok X G (c.fact 20 (f := .glo "number_of") rfl)
  have g_ring_by := He.glo_ok X G (c.fact 21 (f := .glo "ring_by") rfl)
  have g_after := He.glo_ok X G (c.fact 22 (f := .glo "after") rfl)
  have g_before := He.glo_ok X G (c.fact 23 (f := .glo "before") rfl)
  have g_told := He.glo_ok X G (c.fact 24 (f := .glo "told") rfl)
  have g__law_with_ring := He.glo_ok X G (c.fact 25 (f := .glo "_law_with_ring") rfl)
  have g__law_with_colours := He.glo_ok X G (c.fact 26 (f := .glo "_law_with_colours") rfl)
  have g__law_with_length := He.glo_ok X G (c.fact 27 (f := .glo "_law_with_length") rfl)
  have g__law_bad_ring := He.glo_ok X G (c.fact 28 (f := .glo "_law_bad_ring") rfl)
  have g__law_told := He.glo_ok X G (c.fact 29 (f := .glo "_law_told") rfl)
  have g_law := He.glo_ok X G (c.fact 30 (f := .glo "law") rfl)
  have z_len := He.free_ok X G (c.fact 31 (f := .free "len") rfl)
  have z_isinstance := He.free_ok X G (c.fact 32 (f := .free "isinstance") rfl)
  have z_int := He.free_ok X G (c.fact 33 (f := .free "int") rfl)
  have z_bool := He.free_ok X G (c.fact 34 (f := .free "bool") rfl)
  have z_list := He.free_ok X G (c.fact 35 (f := .free "list") rfl)
  have z_all := He.free_ok X G (c.fact 36 (f := .free "all") rfl)
  have z_min := He.free_ok X G (c.fact 37 (f := .free "min") rfl)
  have z_sum := He.free_ok X G (c.fact 38 (f := .free "sum") rfl)
  have z_range := He.free_ok X G (c.fact 39 (f := .free "range") rfl)
  have z_enumerate := He.free_ok X G (c.fact 40 (f := .free "enumerate") rfl)
  have z_max := He.free_ok X G (c.fact 41 (f := .free "max") rfl)
  have z_zip := He.free_ok X G (c.fact 42 (f := .free "zip") rfl)
  have z_str := He.free_ok X G (c.fact 43 (f := .free "str") rfl)
  have z_tuple := He.free_ok X G (c.fact 44 (f := .free "tuple") rfl)
  have z_abs := He.free_ok X G (c.fact 45 (f := .free "abs") rfl)
  have z_ValueError := He.free_ok X G (c.fact 46 (f := .free "ValueError") rfl)
  have z_LONGEST := He.int_ok X G (c.fact 47 (f := .int "LONGEST" 200) rfl)
  have g_RingError := He.glo_ok X G (c.fact 48 (f := .glo "RingError") rfl)
  have g_BadRing := He.glo_ok X G (c.fact 49 (f := .glo "BadRing") rfl)
  have z_exc_BadRing := He.exc_ok (c.fact 50 (f := .exc "BadRing") rfl)
  have z_exm_BadRing_RingError := He.exm_ok (c.fact 51 (f := .exm "BadRing" "RingError" true) rfl)
  have g_BadColours := He.glo_ok X G (c.fact 52 (f := .glo "BadColours") rfl)
  have z_exc_BadColours := He.exc_ok (c.fact 53 (f := .exc "BadColours") rfl)
  have z_exm_BadColours_RingError := He.exm_ok (c.fact 54 (f := .exm "BadColours" "RingError" true) rfl)
  have g_BadLength := He.glo_ok X G (c.fact 55 (f := .glo "BadLength") rfl)
  have z_exc_BadLength := He.exc_ok (c.fact 56 (f := .exc "BadLength") rfl)
  have z_exm_BadLength_RingError := He.exm_ok (c.fact 57 (f := .exm "BadLength" "RingError" true) rfl)
  have g_BadNumber := He.glo_ok X G (c.fact 58 (f := .glo "BadNumber") rfl)
  have z_exc_BadNumber := He.exc_ok (c.fact 59 (f := .exc "BadNumber") rfl)
  have z_exm_BadNumber_RingError := He.exm_ok (c.fact 60 (f := .exm "BadNumber" "RingError" true) rfl)
  have eR : Err K mg "BadRing" := err_of g_BadRing z_exc_BadRing z_exm_BadRing_RingError (List.all_eq_true.mp cx (errB K "BadRing") (List.mem_of_getElem? (i := 0) rfl))
  have eC : Err K mg "BadColours" := err_of g_BadColours z_exc_BadColours z_exm_BadColours_RingError (List.all_eq_true.mp cx (errB K "BadColours") (List.mem_of_getElem? (i := 1) rfl))
  have eL : Err K mg "BadLength" := err_of g_BadLength z_exc_BadLength z_exm_BadLength_RingError (List.all_eq_true.mp cx (errB K "BadLength") (List.mem_of_getElem? (i := 2) rfl))
  have eN : Err K mg "BadNumber" := err_of g_BadNumber z_exc_BadNumber z_exm_BadNumber_RingError (List.all_eq_true.mp cx (errB K "BadNumber") (List.mem_of_getElem? (i := 3) rfl))
  have T : Tops mg := ⟨z_len, z_isinstance, z_int, z_bool, z_list, z_all, z_min, z_sum, z_range, z_enumerate, z_max, z_zip, z_str, z_tuple, z_abs⟩
  obtain ⟨fd0, E0⟩ := c.def_ 0 (d := d0) rfl
  have F0 : Fun K "is_number" "is_number" s_is_number _ fd0 := fun_of E0
  obtain ⟨fd1, E1⟩ := c.def_ 1 (d := d1) rfl
  have F1 : Fun K "is_number" "is_number" s_is_number _ fd1 := fun_of E1
  obtain ⟨fd2, E2⟩ := c.def_ 2 (d := d2) rfl
  have F2 : Fun K "asked_ring" "asked_ring" s_asked_ring _ fd2 := fun_of E2
  obtain ⟨fd3, E3⟩ := c.def_ 3 (d := d3) rfl
  have F3 : Fun K "asked_ring" "asked_ring" s_asked_ring _ fd3 := fun_of E3
  obtain ⟨fd4, E4⟩ := c.def_ 4 (d := d4) rfl
  have F4 : Fun K "turn_of" "turn_of" s_turn_of _ fd4 := fun_of E4
  obtain ⟨fd5, E5⟩ := c.def_ 5 (d := d5) rfl
  have F5 : Fun K "turned" "turned" s_turned _ fd5 := fun_of E5
  obtain ⟨fd6, E6⟩ := c.def_ 6 (d := d6) rfl
  have F6 : Fun K "turned" "turned" s_turned _ fd6 := fun_of E6
  obtain ⟨fd7, E7⟩ := c.def_ 7 (d := d7) rfl
  have F7 : Fun K "least_turn" "least_turn" s_least_turn _ fd7 := fun_of E7
  obtain ⟨fd8, E8⟩ := c.def_ 8 (d := d8) rfl
  have F8 : Fun K "least" "least" s_least _ fd8 := fun_of E8
  obtain ⟨fd9, E9⟩ := c.def_ 9 (d := d9) rfl
  have F9 : Fun K "least" "least" s_least _ fd9 := fun_of E9
  obtain ⟨fd10, E10⟩ := c.def_ 10 (d := d10) rfl
  have F10 : Fun K "period_of" "period_of" s_period_of _ fd10 := fun_of E10
  obtain ⟨fd11, E11⟩ := c.def_ 11 (d := d11) rfl
  have F11 : Fun K "period" "period" s_period _ fd11 := fun_of E11
  obtain ⟨fd12, E12⟩ := c.def_ 12 (d := d12) rfl
  have F12 : Fun K "period" "period" s_period _ fd12 := fun_of E12
  obtain ⟨fd13, E13⟩ := c.def_ 13 (d := d13) rfl
  have F13 : Fun K "asked_colours" "asked_colours" s_asked_colours _ fd13 := fun_of E13
  obtain ⟨fd14, E14⟩ := c.def_ 14 (d := d14) rfl
  have F14 : Fun K "asked_colours" "asked_colours" s_asked_colours _ fd14 := fun_of E14
  obtain ⟨fd15, E15⟩ := c.def_ 15 (d := d15) rfl
  have F15 : Fun K "asked_length" "asked_length" s_asked_length _ fd15 := fun_of E15
  obtain ⟨fd16, E16⟩ := c.def_ 16 (d := d16) rfl
  have F16 : Fun K "asked_length" "asked_length" s_asked_length _ fd16 := fun_of E16
  obtain ⟨fd17, E17⟩ := c.def_ 17 (d := d17) rfl
  have F17 : Fun K "power" "power" s_power _ fd17 := fun_of E17
  obtain ⟨fd18, E18⟩ := c.def_ 18 (d := d18) rfl
  have F18 : Fun K "common" "common" s_common _ fd18 := fun_of E18
  obtain ⟨fd19, E19⟩ := c.def_ 19 (d := d19) rfl
  have F19 : Fun K "divisors" "divisors" s_divisors _ fd19 := fun_of E19
  obtain ⟨fd20, E20⟩ := c.def_ 20 (d := d20) rfl
  have F20 : Fun K "free" "free" s_free _ fd20 := fun_of E20
  obtain ⟨fd21, E21⟩ := c.def_ 21 (d := d21) rfl
  have F21 : Fun K "rings" "rings" s_rings _ fd21 := fun_of E21
  obtain ⟨fd22, E22⟩ := c.def_ 22 (d := d22) rfl
  have F22 : Fun K "rings" "rings" s_rings _ fd22 := fun_of E22
  obtain ⟨fd23, E23⟩ := c.def_ 23 (d := d23) rfl
  have F23 : Fun K "of_period" "of_period" s_of_period _ fd23 := fun_of E23
  obtain ⟨fd24, E24⟩ := c.def_ 24 (d := d24) rfl
  have F24 : Fun K "asked_coloured" "asked_coloured" s_asked_coloured _ fd24 := fun_of E24
  obtain ⟨fd25, E25⟩ := c.def_ 25 (d := d25) rfl
  have F25 : Fun K "asked_coloured" "asked_coloured" s_asked_coloured _ fd25 := fun_of E25
  obtain ⟨fd26, E26⟩ := c.def_ 26 (d := d26) rfl
  have F26 : Fun K "shares" "shares" s_shares _ fd26 := fun_of E26
  obtain ⟨fd27, E27⟩ := c.def_ 27 (d := d27) rfl
  have F27 : Fun K "greater" "greater" s_greater _ fd27 := fun_of E27
  obtain ⟨fd28, E28⟩ := c.def_ 28 (d := d28) rfl
  have F28 : Fun K "floor_row" "floor_row" s_floor_row _ fd28 := fun_of E28
  obtain ⟨fd29, E29⟩ := c.def_ 29 (d := d29) rfl
  have F29 : Fun K "number_of" "number_of" s_number_of _ fd29 := fun_of E29
  obtain ⟨fd30, E30⟩ := c.def_ 30 (d := d30) rfl
  have F30 : Fun K "number_of" "number_of" s_number_of _ fd30 := fun_of E30
  obtain ⟨fd31, E31⟩ := c.def_ 31 (d := d31) rfl
  have F31 : Fun K "ring_by" "ring_by" s_ring_by _ fd31 := fun_of E31
  obtain ⟨fd32, E32⟩ := c.def_ 32 (d := d32) rfl
  have F32 : Fun K "ring_by" "ring_by" s_ring_by _ fd32 := fun_of E32
  obtain ⟨fd33, E33⟩ := c.def_ 33 (d := d33) rfl
  have F33 : Fun K "after" "after" s_after _ fd33 := fun_of E33
  obtain ⟨fd34, E34⟩ := c.def_ 34 (d := d34) rfl
  have F34 : Fun K "after" "after" s_after _ fd34 := fun_of E34
  obtain ⟨fd35, E35⟩ := c.def_ 35 (d := d35) rfl
  have F35 : Fun K "after" "after" s_after _ fd35 := fun_of E35
  obtain ⟨fd36, E36⟩ := c.def_ 36 (d := d36) rfl
  have F36 : Fun K "before" "before" s_before _ fd36 := fun_of E36
  obtain ⟨fd37, E37⟩ := c.def_ 37 (d := d37) rfl
  have F37 : Fun K "before" "before" s_before _ fd37 := fun_of E37
  obtain ⟨fd38, E38⟩ := c.def_ 38 (d := d38) rfl
  have F38 : Fun K "before" "before" s_before _ fd38 := fun_of E38
  obtain ⟨fd39, E39⟩ := c.def_ 39 (d := d39) rfl
  have F39 : Fun K "told" "told" s_told _ fd39 := fun_of E39
  obtain ⟨fd40, E40⟩ := c.def_ 40 (d := d40) rfl
  have F40 : Fun K "_law_with_ring" "_law_with_ring" s__law_with_ring _ fd40 := fun_of E40
  obtain ⟨fd41, E41⟩ := c.def_ 41 (d := d41) rfl
  have F41 : Fun K "_law_with_colours" "_law_with_colours" s__law_with_colours _ fd41 := fun_of E41
  obtain ⟨fd42, E42⟩ := c.def_ 42 (d := d42) rfl
  have F42 : Fun K "_law_with_length" "_law_with_length" s__law_with_length _ fd42 := fun_of E42
  obtain ⟨fd43, E43⟩ := c.def_ 43 (d := d43) rfl
  have F43 : Fun K "_law_bad_ring" "_law_bad_ring" s__law_bad_ring _ fd43 := fun_of E43
  obtain ⟨fd44, E44⟩ := c.def_ 44 (d := d44) rfl
  have F44 : Fun K "_law_told" "_law_told" s__law_told _ fd44 := fun_of E44
  obtain ⟨fd45, E45⟩ := c.def_ 45 (d := d45) rfl
  have F45 : Fun K "law" "law" s_law _ fd45 := fun_of E45
  have e := hfa.symm.trans g_law
  cases e
  have bL := FunD.bindsA (ps := ["_law_script"]) E45 (fun _ _ _ _ _ _ us hl => match us, hl with | [_], _ => rfl)
  refine ⟨fd45, fun s v => bL s [v] rfl, fun base hKb hNb => ?_⟩
  have H_is_number : Has P w K mg base "is_number" 1 (spA RIsNumber) := has_of (ok_is_number F0 T) g_is_number E0.kp (F0.binds (ps := ["thing"]) (fun _ _ _ _ _ _ us hl => match us, hl with | [_], _ => rfl))
  have H_is_numX : Has P w K mg base "is_number" 1 (spA (RIsNumX K)) := has_of (ok_is_numX F1 T) g_is_number E1.kp (F1.binds (ps := ["thing"]) (fun _ _ _ _ _ _ us hl => match us, hl with | [_], _ => rfl))
  have H_asked_ring : Has P w K mg base "asked_ring" 2 (spA RAskedRing) := has_of (ok_asked_ring F2 T z_LONGEST H_is_number) g_asked_ring E2.kp (F2.binds (ps := ["ring"]) (fun _ _ _ _ _ _ us hl => match us, hl with | [_], _ => rfl))
  have X_asked_ring : HasX P w K mg base "asked_ring" 2 (spX (RNoRing K)) := hasX_of (ok_asked_ringX F3 T z_LONGEST H_is_numX eR) g_asked_ring E3.kp (F3.binds (ps := ["ring"]) (fun _ _ _ _ _ _ us hl => match us, hl with | [_], _ => rfl))
  have H_turn_of : Has P w K mg base "turn_of" 1 (spN RTurnOf) := has_of (ok_turn_of F4 T) g_turn_of E4.kp (F4.binds (ps := ["ring", "by"]) (fun _ _ _ _ _ _ us hl => match us, hl with | [_, _], _ => rfl))
  have H_turned : Has P w K mg base "turned" 3 (spN RTurned) := has_of (ok_turned F5 H_asked_ring H_is_number H_turn_of) g_turned E5.kp (F5.binds (ps := ["ring", "by"]) (fun _ _ _ _ _ _ us hl => match us, hl with | [_, _], _ => rfl))
  have X_turned : HasX P w K mg base "turned" 3 (spX (RTurnedX K)) := hasX_of (ok_turnedX F6 H_asked_ring X_asked_ring H_is_numX eN) g_turned E6.kp (F6.binds (ps := ["ring", "by"]) (fun _ _ _ _ _ _ us hl => match us, hl with | [_, _], _ => rfl))
  have H_least_turn : Has P w K mg base "least_turn" 2 (spA RLeastTurn) := has_of (ok_least_turn F7 T H_turn_of) g_least_turn E7.kp (F7.binds (ps := ["ring"]) (fun _ _ _ _ _ _ us hl => match us, hl with | [_], _ => rfl))
  have H_least : Has P w K mg base "least" 3 (spN RLeast) := has_of (ok_least F8 H_asked_ring H_least_turn H_turn_of) g_least E8.kp (F8.binds (ps := ["ring"]) (fun _ _ _ _ _ _ us hl => match us, hl with | [_], _ => rfl))
  have X_least : HasX P w K mg base "least" 3 (spX (RNoRing K)) := hasX_of (ok_leastX F9 X_asked_ring) g_least E9.kp (F9.binds (ps := ["ring"]) (fun _ _ _ _ _ _ us hl => match us, hl with | [_], _ => rfl))
  have H_period_of : Has P w K mg base "period_of" 2 (spA RPeriodOf) := has_of (ok_period_of F10 T H_turn_of) g_period_of E10.kp (F10.binds (ps := ["ring"]) (fun _ _ _ _ _ _ us hl => match us, hl with | [_], _ => rfl))
  have H_period : Has P w K mg base "period" 3 (spA RPeriod) := has_of (ok_period F11 H_asked_ring H_period_of) g_period E11.kp (F11.binds (ps := ["ring"]) (fun _ _ _ _ _ _ us hl => match us, hl with | [_], _ => rfl))
  have X_period : HasX P w K mg base "period" 3 (spX (RNoRing K)) := hasX_of (ok_periodX F12 X_asked_ring) g_period E12.kp (F12.binds (ps := ["ring"]) (fun _ _ _ _ _ _ us hl => match us, hl with | [_], _ => rfl))
  have H_asked_colours : Has P w K mg base "asked_colours" 2 (spA RAskedColours) := has_of (ok_asked_colours F13 H_is_number) g_asked_colours E13.kp (F13.binds (ps := ["colours"]) (fun _ _ _ _ _ _ us hl => match us, hl with | [_], _ => rfl))
  have X_asked_colours : HasX P w K mg base "asked_colours" 2 (spX (RNoCol K)) := hasX_of (ok_asked_coloursX F14 H_is_numX eC) g_asked_colours E14.kp (F14.binds (ps := ["colours"]) (fun _ _ _ _ _ _ us hl => match us, hl with | [_], _ => rfl))
  have H_asked_length : Has P w K mg base "asked_length" 2 (spA RAskedLength) := has_of (ok_asked_length F15 z_LONGEST H_is_number) g_asked_length E15.kp (F15.binds (ps := ["length"]) (fun _ _ _ _ _ _ us hl => match us, hl with | [_], _ => rfl))
  have X_asked_length : HasX P w K mg base "asked_length" 2 (spX (RNoLen K)) := hasX_of (ok_asked_lengthX F16 z_LONGEST H_is_numX eL) g_asked_length E16.kp (F16.binds (ps := ["length"]) (fun _ _ _ _ _ _ us hl => match us, hl with | [_], _ => rfl))
  have H_power : Has P w K mg base "power" 1 (spA RPower_power) := has_of (ok_power F17 T) g_power E17.kp (F17.binds (ps := ["colours", "many"]) (fun _ _ _ _ _ _ us hl => match us, hl with | [_, _], _ => rfl))
  have H_common : Has P w K mg base "common" 1 (spA RCommon_common) := has_of (ok_common F18 ) g_common E18.kp (F18.binds (ps := ["one", "other"]) (fun _ _ _ _ _ _ us hl => match us, hl with | [_, _], _ => rfl))
  have H_divisors : Has P w K mg base "divisors" 1 (spN RDivisors) := has_of (ok_divisors F19 T) g_divisors E19.kp (F19.binds (ps := ["number"]) (fun _ _ _ _ _ _ us hl => match us, hl with | [_], _ => rfl))
  have H_free : Has P w K mg base "free" 2 (spA RFree) := has_of (ok_free F20 T H_common) g_free E20.kp (F20.binds (ps := ["number"]) (fun _ _ _ _ _ _ us hl => match us, hl with | [_], _ => rfl))
  have H_rings : Has P w K mg base "rings" 3 (spA RRings) := has_of (ok_rings F21 T H_asked_colours H_asked_length H_divisors H_free H_power) g_rings E21.kp (F21.binds (ps := ["colours", "length"]) (fun _ _ _ _ _ _ us hl => match us, hl with | [_, _], _ => rfl))
  have X_rings : HasX P w K mg base "rings" 3 (spX (RRingsX K)) := hasX_of (ok_ringsX F22 H_asked_colours X_asked_colours X_asked_length) g_rings E22.kp (F22.binds (ps := ["colours", "length"]) (fun _ _ _ _ _ _ us hl => match us, hl with | [_, _], _ => rfl))
  have X_of_period : HasX P w K mg base "of_period" 3 (spX (ROfPeriodX K)) := hasX_of (ok_of_periodX F23 H_is_numX H_asked_colours X_asked_colours H_asked_length X_asked_length eN) g_of_period E23.kp (F23.binds (ps := ["colours", "length", "size"]) (fun _ _ _ _ _ _ us hl => match us, hl with | [_, _, _], _ => rfl))
  have H_asked_coloured : Has P w K mg base "asked_coloured" 3 (spA RAskedColoured) := has_of (ok_asked_coloured F24 T H_asked_colours H_asked_ring) g_asked_coloured E24.kp (F24.binds (ps := ["colours", "ring"]) (fun _ _ _ _ _ _ us hl => match us, hl with | [_, _], _ => rfl))
  have X_asked_coloured : HasX P w K mg base "asked_coloured" 3 (spX (RNoRow K)) := hasX_of (ok_asked_colouredX F25 T H_asked_colours X_asked_colours H_asked_ring X_asked_ring eR) g_asked_coloured E25.kp (F25.binds (ps := ["colours", "ring"]) (fun _ _ _ _ _ _ us hl => match us, hl with | [_, _], _ => rfl))
  have H_shares : Has P w K mg base "shares" 3 (spA RShares) := has_of (ok_shares F26 T H_divisors H_free) g_shares E26.kp (F26.binds (ps := ["size"]) (fun _ _ _ _ _ _ us hl => match us, hl with | [_], _ => rfl))
  have H_greater : Has P w K mg base "greater" 1 (spA RGreater) := has_of (ok_greater F27 T) g_greater E27.kp (F27.binds (ps := ["colours", "row", "parts"]) (fun _ _ _ _ _ _ us hl => match us, hl with | [_, _, _], _ => rfl))
  have H_floor_row : Has P w K mg base "floor_row" 1 (spN RFloorRow) := has_of (ok_floor_row F28 T) g_floor_row E28.kp (F28.binds (ps := ["colours", "row"]) (fun _ _ _ _ _ _ us hl => match us, hl with | [_, _], _ => rfl))
  have H_number_of : Has P w K mg base "number_of" 4 (spA RNumberOf) := has_of (ok_number_of F29 T H_asked_coloured H_turn_of H_least_turn H_rings H_greater H_shares) g_number_of E29.kp (F29.binds (ps := ["colours", "ring"]) (fun _ _ _ _ _ _ us hl => match us, hl with | [_, _], _ => rfl))
  have X_number_of : HasX P w K mg base "number_of" 4 (spX (RNoRow K)) := hasX_of (ok_number_ofX F30 X_asked_coloured) g_number_of E30.kp (F30.binds (ps := ["colours", "ring"]) (fun _ _ _ _ _ _ us hl => match us, hl with | [_, _], _ => rfl))
  have H_ring_by : Has P w K mg base "ring_by" 4 (spN RRingBy) := has_of (ok_ring_by F31 T H_is_number H_asked_colours H_asked_length H_rings H_greater H_shares H_floor_row) g_ring_by E31.kp (F31.binds (ps := ["colours", "length", "number"]) (fun _ _ _ _ _ _ us hl => match us, hl with | [_, _, _], _ => rfl))
  have X_ring_by : HasX P w K mg base "ring_by" 4 (spX (RRingByX K)) := hasX_of (ok_ring_byX F32 H_is_numX H_asked_colours X_asked_colours H_asked_length X_asked_length H_rings eN) g_ring_by E32.kp (F32.binds (ps := ["colours", "length", "number"]) (fun _ _ _ _ _ _ us hl => match us, hl with | [_, _, _], _ => rfl))
  have H_afterN : Has P w K mg base "after" 4 (spA RAfterN) := has_of (ok_afterN F33 T H_asked_coloured H_turn_of H_least_turn) g_after E33.kp (F33.binds (ps := ["colours", "ring"]) (fun _ _ _ _ _ _ us hl => match us, hl with | [_, _], _ => rfl))
  have H_afterS : Has P w K mg base "after" 4 (spN RAfterS) := has_of (ok_afterS F34 T H_asked_coloured H_turn_of H_least_turn) g_after E34.kp (F34.binds (ps := ["colours", "ring"]) (fun _ _ _ _ _ _ us hl => match us, hl with | [_, _], _ => rfl))
  have X_after : HasX P w K mg base "after" 4 (spX (RNoRow K)) := hasX_of (ok_afterX F35 X_asked_coloured) g_after E35.kp (F35.binds (ps := ["colours", "ring"]) (fun _ _ _ _ _ _ us hl => match us, hl with | [_, _], _ => rfl))
  have H_beforeN : Has P w K mg base "before" 4 (spA RBeforeN) := has_of (ok_beforeN F36 T H_asked_coloured H_turn_of H_least_turn H_floor_row) g_before E36.kp (F36.binds (ps := ["colours", "ring"]) (fun _ _ _ _ _ _ us hl => match us, hl with | [_, _], _ => rfl))
  have H_beforeS : Has P w K mg base "before" 4 (spN RBeforeS) := has_of (ok_beforeS F37 T H_asked_coloured H_turn_of H_least_turn H_floor_row) g_before E37.kp (F37.binds (ps := ["colours", "ring"]) (fun _ _ _ _ _ _ us hl => match us, hl with | [_, _], _ => rfl))
  have X_before : HasX P w K mg base "before" 4 (spX (RNoRow K)) := hasX_of (ok_beforeX F38 X_asked_coloured) g_before E38.kp (F38.binds (ps := ["colours", "ring"]) (fun _ _ _ _ _ _ us hl => match us, hl with | [_, _], _ => rfl))
  have X_told : HasX P w K mg base "told" 3 (spX (RToldX K)) := hasX_of (ok_toldX F39 H_asked_ring X_asked_ring) g_told E39.kp (F39.binds (ps := ["one", "other"]) (fun _ _ _ _ _ _ us hl => match us, hl with | [_, _], _ => rfl))
  have X_law_with_ring : HasX P w K mg base "_law_with_ring" 5 (spX (RWithRing K)) := hasX_of (ok_law_with_ring F40 X_turned X_least X_period X_told X_number_of X_after X_before) g__law_with_ring E40.kp (F40.binds (ps := ["_law_door", "_law_ring"]) (fun _ _ _ _ _ _ us hl => match us, hl with | [_, _], _ => rfl))
  have X_law_with_colours : HasX P w K mg base "_law_with_colours" 5 (spX (RWithColours K)) := hasX_of (ok_law_with_colours F41 X_rings X_of_period X_number_of X_ring_by X_after X_before) g__law_with_colours E41.kp (F41.binds (ps := ["_law_door", "_law_colours"]) (fun _ _ _ _ _ _ us hl => match us, hl with | [_, _], _ => rfl))
  have X_law_with_length : HasX P w K mg base "_law_with_length" 5 (spX (RWithLength K)) := hasX_of (ok_law_with_length F42 X_rings X_of_period X_ring_by) g__law_with_length E42.kp (F42.binds (ps := ["_law_door", "_law_length"]) (fun _ _ _ _ _ _ us hl => match us, hl with | [_, _], _ => rfl))
  have H__law_bad_ring : Has P w K mg base "_law_bad_ring" 1 (spA (RBadRing K)) := has_of (ok_law_bad_ring F43 T) g__law_bad_ring E43.kp (F43.binds (ps := ["_law_which", "_law_more"]) (fun _ _ _ _ _ _ us hl => match us, hl with | [_, _], _ => rfl))
  have H__law_told : Has P w K mg base "_law_told" 6 (spA (RLawTold K)) := has_of (ok_law_told F44 T z_ValueError H__law_bad_ring X_law_with_ring X_law_with_colours X_law_with_length X_ring_by X_of_period X_turned X_number_of X_after X_before g_RingError eR eC eL eN) g__law_told E44.kp (F44.binds (ps := ["_law_kind", "_law_which", "_law_more"]) (fun _ _ _ _ _ _ us hl => match us, hl with | [_, _, _], _ => rfl))
  exact ok_law F45 T H__law_told H_period H_rings H_ring_by H_afterN
end K07
open PySem PySem.W PySem.Calls PyProof.Rows
theorem PySem.Challenge.cw_ringkinds_k07_refused_holds : PySem.Challenge.rw_ringkinds_k07_refused.Holds := by
  w_on; o_law
  refine HandSHeadRun.head_any (r := OpenLaw.row PySem.Challenge.rw_ringkinds_k07_refused) (q := view (OpenLaw.row PySem.Challenge.rw_ringkinds_k07_refused).prog [48]) (H := K07.hkL) (ob := K07.obL) (M := 3000) (loose := K07.looseL) (d := HandSHeadRun.topDef (OpenLaw.row PySem.Challenge.rw_ringkinds_k07_refused).prog 48) (kwd := []) K07.obL_eq
    (by kernel_rfl) (fun s => by kernel_rfl) K07.runL (by kernel_rfl) (by kernel_rfl) (by kernel_rfl) (by rfl) (by first | assumption | decide +kernel) (by decide +kernel) ⟨rfl, rfl, rfl, rfl, rfl, by decide +kernel⟩ ?hw ?hc
  case hw => w_witness2
  case hc =>
    refine Ab.walk_ofEB (l := PySem.Challenge.rw_ringkinds_k07_refused) (n := 63) (k := 7) (x := "_law_script") rfl (by decide) (by kernel_rfl) ⟨rfl, by decide, by decide⟩ ?F
    intro w mg fa h Y G hmg0
    obtain ⟨K, KX, c, cx⟩ := Y
    have hmg : mg ("law" : PySem.Str) = some (.ref fa) := by
      have e : (HandSHeadRun.topDef (OpenLaw.row PySem.Challenge.rw_ringkinds_k07_refused).prog 48).name = ("law" : PySem.Str) := by kernel_rfl
      rw [← e]
      exact hmg0
    obtain ⟨fd, hb, hF⟩ := K07.factsL (P := (PySem.Challenge.rw_ringkinds_k07_refused).prog) (w := w) KX G hmg c cx
    exact ⟨K, fd, Ab.spA (Ab.RLaw K), KX, hb, fun H a ns hl hbit _ hS => Ab.law_sp H a ns hl hbit hS, hF⟩
