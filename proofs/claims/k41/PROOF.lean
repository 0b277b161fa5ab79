import PyProof.Rows.All
import Wide.All
import OpenK.AllK
import Wide.FinOn
import KE.KStateDown
import HandS.ForMost
import HandS.Defaults
import HandS.TupAny
import HandS.TupMul
import HandS.Zip
import HandS.DictComp
import HandS.Star
import HandS.IsInst
import HandS.Strs
import HandS.SetFor
import KE.GoesEnum
import KE.KRevSl
import HandS.Small
import HandS.Style
import HandS.Dict
import HandS.Head2
import HandS.HeadEnd
import HandS.HeadHook2
import PySem.Challenge.RW_mendfew_k41_whole_goings_in_any_order
set_option Elab.async false
set_option linter.all false
set_option maxRecDepth 100000
set_option maxHeartbeats 4000000

/-! Dat1: data instead of heaps. Slots hold data (S); the heap is hidden behind Wd; judgements in continuation style. -/
namespace Dt
open PySem PySem.Spec PyProof.Rows L2

abbrev D := PyData
/-! ### heaps that grow -/
def Sub (H H' : Hp) : Prop := ∀ a o, H a = some o → H' a = some o
theorem Sub.rfl' {H : Hp} : Sub H H := fun _ _ h => h
theorem Sub.tr {H H1 H2 : Hp} (a : Sub H H1) (b : Sub H1 H2) : Sub H H2 := fun x o h => b x o (a x o h)
theorem Sub.fresh {H H' : Hp} (e : Sub H H') {p : Addr} (h : H' p = none) : H p = none := by
  cases h1 : H p with
  | none => rfl
  | some o => rw [e p o h1] at h; cases h
theorem Sub.put {H : Hp} {p : Addr} {o : HO} (h : H p = none) : Sub H (upd H p o) := fun a u e => by
  rw [upd_ne (ne_of_none e h)]; exact e

mutual
inductive Rp (H : Hp) : V → D → Prop
  | non : Rp H .non .none
  | bl (b : Bool) : Rp H (.bl b) (.bool b)
  | int (i : Int) : Rp H (.int i) (.int i)
  | str (x : Str) : Rp H (.str x) (.str x)
  | lst {a : Addr} {vs : List V} {ds : List D} : H a = some (.lst vs) → Rps H vs ds → Rp H (.ref a) (.list ds)
  | tup {a : Addr} {vs : List V} {ds : List D} : H a = some (.tup vs) → Rps H vs ds → Rp H (.ref a) (.tuple ds)
inductive Rps (H : Hp) : List V → List D → Prop
  | nil : Rps H [] []
  | cons {v : V} {vs : List V} {d : D} {ds : List D} : Rp H v d → Rps H vs ds → Rps H (v :: vs) (d :: ds)
end
mutual
theorem Rp.mono {H H' : Hp} (e : Sub H H') : ∀ {v : V} {d : D}, Rp H v d → Rp H' v d
  | _, _, .non => .non
  | _, _, .bl b => .bl b
  | _, _, .int i => .int i
  | _, _, .str x => .str x
  | _, _, .lst h r => .lst (e _ _ h) (Rps.mono e r)
  | _, _, .tup h r => .tup (e _ _ h) (Rps.mono e r)
theorem Rps.mono {H H' : Hp} (e : Sub H H') : ∀ {vs : List V} {ds : List D}, Rps H vs ds → Rps H' vs ds
  | _, _, .nil => .nil
  | _, _, .cons a b => .cons (Rp.mono e a) (Rps.mono e b)
end
mutual
theorem Rp.dp {K : PySem.W.Frag} {H : Hp} : ∀ {v : V} {d : D}, Rp H v d → Dp K H v d
  | _, _, .non => .non
  | _, _, .bl b => .bl b
  | _, _, .int i => .int i
  | _, _, .str x => .str x
  | _, _, .lst h r => .lst (SqL.of h) (Rps.dp r)
  | _, _, .tup h r => .tup (SqT.of h) (Rps.dp r)
theorem Rps.dp {K : PySem.W.Frag} {H : Hp} : ∀ {vs : List V} {ds : List D}, Rps H vs ds → DpAll K H vs ds
  | _, _, .nil => .nil
  | _, _, .cons a b => .cons (Rp.dp a) (Rps.dp b)
end
theorem Rps.len {H : Hp} : ∀ {vs : List V} {ds : List D}, Rps H vs ds → vs.length = ds.length
  | _, _, .nil => rfl
  | _, _, .cons _ b => congrArg Nat.succ (Rps.len b)
theorem Rps.get {H : Hp} : ∀ {vs : List V} {ds : List D}, Rps H vs ds → ∀ {i : Nat} {d : D}, ds[i]? = some d → ∃ v, vs[i]? = some v ∧ Rp H v d
  | _, _, .nil, i, d, h => by simp at h
  | _, _, .cons (v := v) a b, 0, d, h => by
    have e := Option.some.inj (by simpa using h)
    exact ⟨v, rfl, e ▸ a⟩
  | _, _, .cons a b, i + 1, d, h => by
    obtain ⟨w, h1, h2⟩ := Rps.get b (i := i) (by simpa using h)
    exact ⟨w, by simpa using h1, h2⟩
theorem Rps.get' {H : Hp} {vs : List V} {ds : List D} (r : Rps H vs ds) {i : Nat} {v : V} (h : vs[i]? = some v) : ∃ d, ds[i]? = some d ∧ Rp H v d := by
  have hi := (List.getElem?_eq_some_iff.mp h).1
  rw [r.len] at hi
  obtain ⟨w, h1, h2⟩ := r.get (List.getElem?_eq_getElem hi)
  rw [h] at h1
  cases h1
  exact ⟨_, List.getElem?_eq_getElem hi, h2⟩
theorem Rps.mk {H : Hp} : ∀ {vs : List V} {ds : List D}, vs.length = ds.length → (∀ (i : Nat) (v : V) (d : D), vs[i]? = some v → ds[i]? = some d → Rp H v d) → Rps H vs ds
  | [], [], _, _ => .nil
  | [], _ :: _, h, _ => by cases h
  | _ :: _, [], h, _ => by cases h
  | v :: vs, d :: ds, h, k => .cons (k 0 v d rfl rfl) (Rps.mk (Nat.succ.inj h) fun i v d a b => k (i + 1) v d (by simpa using a) (by simpa using b))
theorem Rps.app {H : Hp} : ∀ {vs : List V} {ds : List D} {ws : List V} {es : List D}, Rps H vs ds → Rps H ws es → Rps H (vs ++ ws) (ds ++ es)
  | _, _, _, _, .nil, h => h
  | _, _, _, _, .cons a b, h => .cons a (Rps.app b h)
theorem Rps.one {H : Hp} {v : V} {d : D} (h : Rp H v d) : Rps H [v] [d] := .cons h .nil
theorem Rps.set {H : Hp} {v : V} {d : D} (h : Rp H v d) : ∀ {vs : List V} {ds : List D} (i : Nat), Rps H vs ds → Rps H (vs.set i v) (ds.set i d)
  | _, _, _, .nil => .nil
  | _, _, 0, .cons _ b => .cons h b
  | _, _, i + 1, .cons a b => .cons a (Rps.set h i b)
theorem Rps.drop {H : Hp} : ∀ {vs : List V} {ds : List D} (n : Nat), Rps H vs ds → Rps H (vs.drop n) (ds.drop n)
  | _, _, 0, r => r
  | _, _, _ + 1, .nil => .nil
  | _, _, n + 1, .cons _ b => Rps.drop n b
theorem Rps.take {H : Hp} : ∀ {vs : List V} {ds : List D} (n : Nat), Rps H vs ds → Rps H (vs.take n) (ds.take n)
  | _, _, 0, _ => .nil
  | _, _, _ + 1, .nil => .nil
  | _, _, n + 1, .cons a b => .cons a (Rps.take n b)
theorem Rps.erase {H : Hp} : ∀ {vs : List V} {ds : List D} (n : Nat), Rps H vs ds → Rps H (vs.eraseIdx n) (ds.eraseIdx n)
  | _, _, _, .nil => .nil
  | _, _, 0, .cons _ b => b
  | _, _, n + 1, .cons a b => .cons a (Rps.erase n b)
theorem Rps.rev {H : Hp} {vs : List V} {ds : List D} (r : Rps H vs ds) : Rps H vs.reverse ds.reverse := by
  induction vs generalizing ds with
  | nil => cases r; exact .nil
  | cons v vs ih => cases r with | cons a b => rw [List.reverse_cons, List.reverse_cons]; exact (ih b).app (.one a)
theorem Rps.reps {H : Hp} {vs : List V} {ds : List D} (r : Rps H vs ds) : ∀ n : Nat, Rps H (List.replicate n vs).flatten (List.replicate n ds).flatten
  | 0 => .nil
  | n + 1 => by
    rw [List.replicate_succ, List.replicate_succ, List.flatten_cons, List.flatten_cons]
    exact r.app (Rps.reps r n)
theorem Rps.ints {H : Hp} : ∀ {vs : List V} {ns : List Int}, Rps H vs (ns.map .int) → vs = ns.map V.int
  | [], [], _ => rfl
  | _ :: _, [], h => by cases h
  | [], _ :: _, h => by cases h
  | v :: vs, n :: ns, h => by
    cases h with
    | cons a b => cases a; rw [List.map_cons, Rps.ints b]
theorem Rps.ofInts {H : Hp} : ∀ ns : List Int, Rps H (ns.map V.int) (ns.map .int)
  | [] => .nil
  | n :: ns => .cons (.int n) (Rps.ofInts ns)
theorem Rps.bools {H : Hp} : ∀ {vs : List V} {bs : List Bool}, Rps H vs (bs.map .bool) → vs = bs.map V.bl
  | [], [], _ => rfl
  | _ :: _, [], h => by cases h
  | [], _ :: _, h => by cases h
  | v :: vs, n :: ns, h => by
    cases h with
    | cons a b => cases a; rw [List.map_cons, Rps.bools b]

/-! ### what is hidden -/
def hid (O : List Addr) (H : Hp) : Hp := fun a => if a ∈ O then none else H a
theorem hid_some {O : List Addr} {H : Hp} {a : Addr} {o : HO} (h : hid O H a = some o) : a ∉ O ∧ H a = some o := by
  unfold hid at h
  split at h
  · cases h
  · exact ⟨by assumption, h⟩
theorem hid_of {O : List Addr} {H : Hp} {a : Addr} {o : HO} (h1 : a ∉ O) (h : H a = some o) : hid O H a = some o := by
  unfold hid; rw [if_neg h1]; exact h
theorem hid_sub {O : List Addr} {H : Hp} : Sub (hid O H) H := fun _ _ h => (hid_some h).2
theorem hid_upd {O : List Addr} {H : Hp} {l : Addr} {o : HO} (h : l ∈ O) : hid O (upd H l o) = hid O H := by
  funext a
  unfold hid
  by_cases e : a ∈ O
  · rw [if_pos e, if_pos e]
  · rw [if_neg e, if_neg e, upd_ne (fun z : a = l => e (z ▸ h))]
theorem hid_less {O O' : List Addr} {H : Hp} (h : ∀ a, a ∈ O' → a ∈ O) : Sub (hid O H) (hid O' H) := fun a o e => by
  obtain ⟨h1, h2⟩ := hid_some e
  exact hid_of (fun z => h1 (h a z)) h2

structure Wd where
  O : List Addr
  B : List Addr
  M : List Addr
/-- the feed's dict, at an address that is hidden; its cells at one that is not -/
def feedD (c : Addr) (n r t : Int) : List (Key × V) := [(.inr "cells", .ref c), (.inr "next", .int n), (.inr "rest", .int r), (.inr "turn", .int t)]
def FeedAt (O : List Addr) (H : Hp) (fd : Addr) : Prop :=
  ∃ (c : Addr) (cells : List Int) (n r t : Int), H fd = some (.dK (feedD c n r t)) ∧ c ∉ O ∧ H c = some (.lst (cells.map V.int))
structure WOk (W : Wd) (H : Hp) : Prop where
  there : ∀ l ∈ W.O, H l ≠ none
  mb : ∀ l ∈ W.M, l ∈ W.B
  bo : ∀ l ∈ W.B, l ∈ W.O
  feed : ∀ fd ∈ W.M, FeedAt W.O H fd
structure Le (W : Wd) (H : Hp) (W' : Wd) (H' : Hp) : Prop where
  b : W'.B = W.B
  m : W'.M = W.M
  sub : ∀ l ∈ W.O, l ∈ W'.O
  new : ∀ l ∈ W'.O, l ∈ W.O ∨ H l = none
  keep : ∀ a o, a ∉ W.M → H a = some o → H' a = some o
  ok0 : WOk W H
  ok : WOk W' H'
theorem Le.rfl' {W : Wd} {H : Hp} (h : WOk W H) : Le W H W H := ⟨rfl, rfl, fun _ h => h, fun _ h => .inl h, fun _ _ _ h => h, h, h⟩
theorem Le.tr {W W1 W2 : Wd} {H H1 H2 : Hp} (a : Le W H W1 H1) (b : Le W1 H1 W2 H2) : Le W H W2 H2 := by
  refine ⟨b.b.trans a.b, b.m.trans a.m, fun l h => b.sub l (a.sub l h), fun l h => ?_, fun x o hx h => b.keep x o (by rw [a.m]; exact hx) (a.keep x o hx h), a.ok0, b.ok⟩
  rcases b.new l h with h | h
  · exact a.new l h
  · by_cases hm : l ∈ W.M
    · exact .inl (a.ok0.bo l (a.ok0.mb l hm))
    · right
      cases e : H l with
      | none => rfl
      | some o => rw [a.keep l o hm e] at h; cases h
theorem Le.hid {W W' : Wd} {H H' : Hp} (e : Le W H W' H') : Sub (hid W.O H) (hid W'.O H') := fun a o h => by
  obtain ⟨h1, h2⟩ := hid_some h
  refine hid_of (fun z => ?_) (e.keep a o (fun z => h1 (e.ok0.bo a (e.ok0.mb a z))) h2)
  rcases e.new a z with z | z
  · exact h1 z
  · rw [h2] at z; cases z
/-- a new object, not hidden -/
theorem Le.put {W : Wd} {H : Hp} {p : Addr} {o : HO} (h : WOk W H) (hp : H p = none) : Le W H W (upd H p o) := by
  have hs := Sub.put (o := o) hp
  refine ⟨rfl, rfl, fun _ h => h, fun _ h => .inl h, fun a u _ e => hs a u e, h, ⟨fun l hl => ?_, h.mb, h.bo, fun fd hf => ?_⟩⟩
  · cases e : H l with
    | none => exact absurd e (h.there l hl)
    | some u => rw [hs l u e]; exact fun z => nomatch z
  · obtain ⟨c, cells, n, r, t, h1, h2, h3⟩ := h.feed fd hf
    exact ⟨c, cells, n, r, t, hs _ _ h1, h2, hs _ _ h3⟩
/-- any growth of the heap -/
theorem Le.grow {W : Wd} {H H' : Hp} (h : WOk W H) (hs : Sub H H') : Le W H W H' := by
  refine ⟨rfl, rfl, fun _ h => h, fun _ h => .inl h, fun a u _ e => hs a u e, h, ⟨fun l hl => ?_, h.mb, h.bo, fun fd hf => ?_⟩⟩
  · cases e : H l with
    | none => exact absurd e (h.there l hl)
    | some u => rw [hs l u e]; exact fun z => nomatch z
  · obtain ⟨c, cells, n, r, t, h1, h2, h3⟩ := h.feed fd hf
    exact ⟨c, cells, n, r, t, hs _ _ h1, h2, hs _ _ h3⟩
/-- a fresh object becomes hidden -/
def Wd.add (W : Wd) (l : Addr) : Wd := { W with O := l :: W.O }
theorem Le.own {W : Wd} {H : Hp} {l : Addr} {o : HO} (h : WOk W H) (hp : H l = none) : Le W H (W.add l) (upd H l o) := by
  have hs := Sub.put (o := o) hp
  refine ⟨rfl, rfl, fun _ h => List.mem_cons_of_mem _ h, fun a h => ?_, fun a u _ e => hs a u e, h, ⟨fun a ha => ?_, h.mb, fun a ha => List.mem_cons_of_mem _ (h.bo a ha), fun fd hf => ?_⟩⟩
  · rcases List.mem_cons.mp h with e | h
    · exact .inr (e ▸ hp)
    · exact .inl h
  · rcases List.mem_cons.mp ha with e | ha
    · rw [e, upd_same]; exact fun z => nomatch z
    · cases e : H a with
      | none => exact absurd e (h.there a ha)
      | some u => rw [hs a u e]; exact fun z => nomatch z
  · obtain ⟨c, cells, n, r, t, h1, h2, h3⟩ := h.feed fd hf
    refine ⟨c, cells, n, r, t, hs _ _ h1, fun z => ?_, hs _ _ h3⟩
    rcases List.mem_cons.mp z with e | z
    · rw [e, hp] at h3; cases h3
    · exact h2 z
/-- a hidden object of the frame's own is written -/
theorem WOk.write {W : Wd} {H : Hp} {l : Addr} {o : HO} (h : WOk W H) (hl : l ∈ W.O) (hb : l ∉ W.B) : WOk W (upd H l o) := by
  refine ⟨fun a ha => ?_, h.mb, h.bo, fun fd hf => ?_⟩
  · by_cases e : a = l
    · rw [e, upd_same]; exact fun z => nomatch z
    · rw [upd_ne e]; exact h.there a ha
  · obtain ⟨c, cells, n, r, t, h1, h2, h3⟩ := h.feed fd hf
    refine ⟨c, cells, n, r, t, ?_, h2, ?_⟩
    · rw [upd_ne (fun e : fd = l => hb (e ▸ h.mb fd hf))]; exact h1
    · rw [upd_ne (fun e : c = l => h2 (e ▸ hl))]; exact h3

/-! ### what a slot holds -/
inductive S where
  | sh (d : D) | own (ds : List D) | tab (kvs : List (Int × D)) | fee
def TabR (H : Hp) (ws : List (Key × V)) (kvs : List (Int × D)) : Prop := ws.map (·.1) = kvs.map (fun p => (Sum.inl p.1 : Key)) ∧ Rps H (ws.map (·.2)) (kvs.map (·.2))
def RepV (W : Wd) (H : Hp) (v : V) : S → Prop
  | .sh d => Rp (hid W.O H) v d
  | .own ds => ∃ l vs, v = .ref l ∧ l ∈ W.O ∧ l ∉ W.B ∧ H l = some (.lst vs) ∧ Rps (hid W.O H) vs ds
  | .tab kvs => ∃ a ws, v = .ref a ∧ hid W.O H a = some (.dK ws) ∧ TabR (hid W.O H) ws kvs
  | .fee => ∃ fd, v = .ref fd ∧ fd ∈ W.M
theorem RepV.le {W W' : Wd} {H H' : Hp} {v : V} (e : Le W H W' H') : ∀ {s : S}, RepV W H v s → RepV W' H' v s
  | .sh _, h => Rp.mono e.hid h
  | .own _, ⟨l, vs, h1, h2, h3, h4, h5⟩ => ⟨l, vs, h1, e.sub l h2, by rw [e.b]; exact h3, e.keep l _ (fun z => h3 (e.ok0.mb l z)) h4, h5.mono e.hid⟩
  | .tab _, ⟨a, ws, h1, h2, h3, h4⟩ => ⟨a, ws, h1, e.hid a _ h2, h3, h4.mono e.hid⟩
  | .fee, ⟨fd, h1, h2⟩ => ⟨fd, h1, by rw [e.m]; exact h2⟩
abbrev DS := List (Option S)
structure RepS (W : Wd) (H : Hp) (σ : L2.St) (δ : DS) : Prop where
  len : σ.length = δ.length
  at_ : ∀ (i : Nat) (s : S), δ[i]? = some (some s) → ∃ v, σ[i]? = some (some v) ∧ RepV W H v s
  sep : ∀ (i j : Nat) (a b : List D) (v : V), i ≠ j → δ[i]? = some (some (.own a)) → δ[j]? = some (some (.own b)) → σ[i]? = some (some v) → σ[j]? ≠ some (some v)
theorem RepS.le {W W' : Wd} {H H' : Hp} {σ : L2.St} {δ : DS} (r : RepS W H σ δ) (e : Le W H W' H') : RepS W' H' σ δ :=
  ⟨r.len, fun i s h => let ⟨v, h1, h2⟩ := r.at_ i s h; ⟨v, h1, h2.le e⟩, r.sep⟩
/-- a value that is no list of one's own, or a new one -/
def FreshV (W : Wd) (v : V) : S → Prop
  | .own _ => ∀ l, v = .ref l → l ∉ W.O
  | _ => True
theorem RepS.set {W W' : Wd} {H H' : Hp} {σ : L2.St} {δ : DS} {v : V} {s : S} (r : RepS W H σ δ) (e : Le W H W' H') (h : RepV W' H' v s) (f : FreshV W v s) (i : Nat) : RepS W' H' (σ.set i (some v)) (δ.set i (some s)) := by
  have r' := r.le e
  refine ⟨by simp [r.len], fun j t hj => ?_, fun j k a b u hjk hj hk hu => ?_⟩
  · by_cases e1 : i = j
    · subst e1
      have hl : i < δ.length := by
        have := (List.getElem?_eq_some_iff.mp hj).1
        simpa using this
      rw [List.getElem?_set_self hl] at hj
      cases hj
      exact ⟨v, List.getElem?_set_self (by rw [r.len]; exact hl), h⟩
    · rw [List.getElem?_set_ne e1] at hj
      rw [List.getElem?_set_ne e1]
      exact r'.at_ j t hj
  · by_cases e1 : i = j
    · subst e1
      have hl : i < δ.length := by
        have := (List.getElem?_eq_some_iff.mp hj).1
        simpa using this
      rw [List.getElem?_set_self hl] at hj
      rw [List.getElem?_set_self (by rw [r.len]; exact hl)] at hu
      cases hj; cases hu
      rw [List.getElem?_set_ne hjk] at hk ⊢
      intro z
      obtain ⟨w, h1, l, vs, h2, h3, _⟩ := r.at_ k _ hk
      rw [z] at h1
      cases h1
      exact f l h2 h3
    · rw [List.getElem?_set_ne e1] at hj hu
      by_cases e2 : i = k
      · subst e2
        have hl : i < δ.length := by
          have := (List.getElem?_eq_some_iff.mp hk).1
          simpa using this
        rw [List.getElem?_set_self hl] at hk
        rw [List.getElem?_set_self (by rw [r.len]; exact hl)]
        cases hk
        intro z
        cases z
        obtain ⟨w, h1, l, vs, h2, h3, _⟩ := r.at_ j _ hj
        rw [hu] at h1
        cases h1
        exact f l h2 h3
      · rw [List.getElem?_set_ne e2] at hk ⊢
        exact r.sep j k a b u hjk hj hk hu
/-- forgetting slots -/
theorem RepS.forget {W : Wd} {H : Hp} {σ σ' : L2.St} {δ δ' : DS} (r : RepS W H σ δ) (hl : σ'.length = δ'.length) (h : ∀ (i : Nat) s, δ'[i]? = some (some s) → δ[i]? = some (some s) ∧ σ'[i]? = σ[i]?) : RepS W H σ' δ' :=
  ⟨hl, fun i s e => by
    obtain ⟨h1, h2⟩ := h i s e
    rw [h2]
    exact r.at_ i s h1, fun i j a b v hij hi hj hv => by
    obtain ⟨h1, h2⟩ := h i _ hi
    obtain ⟨h3, h4⟩ := h j _ hj
    rw [h2] at hv
    rw [h4]
    exact r.sep i j a b v hij h1 h3 hv⟩

/-! ### a value that is looked at, and let go -/
def RepB (W : Wd) (H : Hp) (v : V) : D → Prop
  | .list ds => ∃ l vs, v = .ref l ∧ l ∉ W.B ∧ H l = some (.lst vs) ∧ Rps (hid W.O H) vs ds
  | d => Rp (hid W.O H) v d
theorem RepB.of {W : Wd} {H : Hp} {v : V} (ok : WOk W H) : ∀ {d : D}, Rp (hid W.O H) v d → RepB W H v d
  | .list ds, h => by
    cases h with
    | lst h1 h2 =>
      obtain ⟨h3, h4⟩ := hid_some h1
      exact ⟨_, _, rfl, fun z => h3 (ok.bo _ z), h4, h2⟩
  | .none, h => h
  | .bool _, h => h
  | .int _, h => h
  | .str _, h => h
  | .tuple _, h => h
  | .dict _, h => h
theorem RepB.le {W W' : Wd} {H H' : Hp} {v : V} (e : Le W H W' H') : ∀ {d : D}, RepB W H v d → RepB W' H' v d
  | .list ds, ⟨l, vs, h1, h2, h3, h4⟩ => ⟨l, vs, h1, by rw [e.b]; exact h2, e.keep l _ (fun z => h2 (e.ok0.mb l z)) h3, h4.mono e.hid⟩
  | .none, h => Rp.mono e.hid h
  | .bool _, h => Rp.mono e.hid h
  | .int _, h => Rp.mono e.hid h
  | .str _, h => Rp.mono e.hid h
  | .tuple _, h => Rp.mono e.hid h
  | .dict _, h => Rp.mono e.hid h
theorem RepB.dp {K : PySem.W.Frag} {W : Wd} {H : Hp} {v : V} : ∀ {d : D}, RepB W H v d → Dp K H v d
  | .list ds, ⟨l, vs, h1, h2, h3, h4⟩ => by subst h1; exact .lst (SqL.of h3) (h4.mono hid_sub).dp
  | .none, h => (Rp.mono hid_sub h).dp
  | .bool _, h => (Rp.mono hid_sub h).dp
  | .int _, h => (Rp.mono hid_sub h).dp
  | .str _, h => (Rp.mono hid_sub h).dp
  | .tuple _, h => (Rp.mono hid_sub h).dp
  | .dict _, h => (Rp.mono hid_sub h).dp
/-- a list or a tuple of these -/
def isSeq (d : D) (ds : List D) : Prop := d = .list ds ∨ d = .tuple ds
theorem RepB.seq {W : Wd} {H : Hp} {v : V} {d : D} {ds : List D} (ok : WOk W H) (q : isSeq d ds) (h : RepB W H v d) : ∃ l vs, v = .ref l ∧ l ∉ W.B ∧ (H l = some (.lst vs) ∨ H l = some (.tup vs)) ∧ Rps (hid W.O H) vs ds := by
  rcases q with e | e
  · subst e
    obtain ⟨l, vs, h1, h2, h3, h4⟩ := h
    exact ⟨l, vs, h1, h2, .inl h3, h4⟩
  · subst e
    have h : Rp (hid W.O H) v (.tuple ds) := h
    cases h with
    | tup h1 h2 =>
      obtain ⟨h3, h4⟩ := hid_some h1
      exact ⟨_, _, rfl, fun z => h3 (ok.bo _ z), .inr h4, h2⟩
end Dt

/-! Dat2: the judgements over data (DE, DB, DV, DL, DT, DC, DAs, DDs) and the rules of expressions. -/
namespace Dt
open PySem PySem.Spec L2

/-! ### the widest readings -/
def wE (X : Cx) (e : Expr) : TE := fun σ H Q => ∀ (pins : List (Addr × Obj)) (s : Shared), Inv X pins σ H s → wpAny (model X.prog X.w) X.A (eval e X.env) (EP X pins σ Q) X.xe s
def wT (X : Cx) (e : Expr) : TT := fun σ H Q => ∀ (pins : List (Addr × Obj)) (s : Shared), Inv X pins σ H s → wpAny (model X.prog X.w) X.A (isTrue e X.env (eval e X.env)) (TP X pins σ Q) X.xe s
def wW (X : Cx) (e : Expr) : TT := fun σ H Q => ∀ (whole : Sem Value) (pins : List (Addr × Obj)) (s : Shared), Inv X pins σ H s → wpAny (model X.prog X.w) X.A (isTrue e X.env whole) (TP X pins σ Q) X.xe s
def wA (X : Cx) (es : List Expr) : TA := fun σ H Q => ∀ (pos : Pos) (pins : List (Addr × Obj)) (s : Shared), Inv X pins σ H s → wpAny (model X.prog X.w) X.A (spliced (backTo pos (starEach es X.env))) (AP X pins σ Q) X.xe s
section
variable {X : Cx} {e : Expr} {es : List Expr} {σ : L2.St} {H : Hp}
theorem pe_w : PE X e (wE X e) := ⟨fun pins s _ _ _ I h => h pins s I⟩
theorem pt_w : PT X e (wT X e) := ⟨fun pins s _ _ _ I h => h pins s I⟩
theorem pw_w : PW X e (wW X e) := ⟨fun wh pins s _ _ _ I h => h wh pins s I⟩
theorem pa_w : PA X es (wA X es) := ⟨fun pos pins s _ _ _ I h => h pos pins s I⟩
theorem wE_of {t : TE} {Q : VK} (h : PE X e t) (q : t σ H Q) : wE X e σ H Q := fun pins s I => h.run pins s σ H Q I q
theorem wT_of {t : TT} {Q : Bool → Hp → Prop} (h : PT X e t) (q : t σ H Q) : wT X e σ H Q := fun pins s I => h.run pins s σ H Q I q
theorem wW_of {t : TT} {Q : Bool → Hp → Prop} (h : PW X e t) (q : t σ H Q) : wW X e σ H Q := fun wh pins s I => h.run wh pins s σ H Q I q
theorem wA_of {t : TA} {Q : List V → Hp → Prop} (h : PA X es t) (q : t σ H Q) : wA X es σ H Q := fun pos pins s I => h.run pos pins s σ H Q I q
end

/-! ### judgements -/
def DE (X : Cx) (e : Expr) (δ : DS) (k : D → Prop) : Prop := ∀ (σ : L2.St) (H : Hp) (W : Wd), WOk W H → RepS W H σ δ → ∀ Q : VK,
  (∀ v d W' H', k d → Le W H W' H' → Rp (hid W'.O H') v d → Q v H') → wE X e σ H Q
def DB (X : Cx) (e : Expr) (δ : DS) (k : D → Prop) : Prop := ∀ (σ : L2.St) (H : Hp) (W : Wd), WOk W H → RepS W H σ δ → ∀ Q : VK,
  (∀ v d W' H', k d → Le W H W' H' → RepB W' H' v d → Q v H') → wE X e σ H Q
def DV (X : Cx) (e : Expr) (δ : DS) (k : S → Prop) : Prop := ∀ (σ : L2.St) (H : Hp) (W : Wd), WOk W H → RepS W H σ δ → ∀ Q : VK,
  (∀ v s W' H', k s → Le W H W' H' → RepV W' H' v s → FreshV W v s → Q v H') → wE X e σ H Q
def DL (X : Cx) (e : Expr) (δ : DS) (k : List D → Prop) : Prop := ∀ (σ : L2.St) (H : Hp) (W : Wd), WOk W H → RepS W H σ δ → ∀ Q : VK,
  (∀ l vs ds W' H', k ds → Le W H W' H' → l ∈ W'.O → l ∉ W.O → H' l = some (.lst vs) → Rps (hid W'.O H') vs ds → Q (.ref l) H') → wE X e σ H Q
def DT (X : Cx) (e : Expr) (δ : DS) (k : Bool → Prop) : Prop := ∀ (σ : L2.St) (H : Hp) (W : Wd), WOk W H → RepS W H σ δ → ∀ Q : Bool → Hp → Prop,
  (∀ b W' H', k b → Le W H W' H' → Q b H') → wT X e σ H Q
def DW (X : Cx) (e : Expr) (δ : DS) (k : Bool → Prop) : Prop := ∀ (σ : L2.St) (H : Hp) (W : Wd), WOk W H → RepS W H σ δ → ∀ Q : Bool → Hp → Prop,
  (∀ b W' H', k b → Le W H W' H' → Q b H') → wW X e σ H Q
def DC (X : Cx) (op : CmpOp) (a b : Expr) (δ : DS) (k : Bool → Prop) : Prop := ∃ t : TE, PC X op a b t ∧ ∀ (σ : L2.St) (H : Hp) (W : Wd), WOk W H → RepS W H σ δ → ∀ Q : VK,
  (∀ c W' H', k c → Le W H W' H' → Q (.bl c) H') → t σ H Q
/-- what is handed on: data, a dict, the feed -/
inductive RepVs (W : Wd) (H : Hp) : List V → List S → Prop
  | nil : RepVs W H [] []
  | cons {v : V} {vs : List V} {s : S} {ss : List S} : RepV W H v s → (∀ ds, s ≠ .own ds) → RepVs W H vs ss → RepVs W H (v :: vs) (s :: ss)
theorem RepVs.le {W W' : Wd} {H H' : Hp} (e : Le W H W' H') : ∀ {vs : List V} {ss : List S}, RepVs W H vs ss → RepVs W' H' vs ss
  | _, _, .nil => .nil
  | _, _, .cons a n b => .cons (a.le e) n (RepVs.le e b)
theorem RepVs.len {W : Wd} {H : Hp} : ∀ {vs : List V} {ss : List S}, RepVs W H vs ss → vs.length = ss.length
  | _, _, .nil => rfl
  | _, _, .cons _ _ b => congrArg Nat.succ (RepVs.len b)
theorem RepVs.app {W : Wd} {H : Hp} : ∀ {vs ws : List V} {ss ts : List S}, RepVs W H vs ss → RepVs W H ws ts → RepVs W H (vs ++ ws) (ss ++ ts)
  | _, _, _, _, .nil, h => h
  | _, _, _, _, .cons a n b, h => .cons a n (RepVs.app b h)
theorem RepVs.ofRps {W : Wd} {H : Hp} : ∀ {vs : List V} {ds : List D}, Rps (hid W.O H) vs ds → RepVs W H vs (ds.map .sh)
  | _, _, .nil => .nil
  | _, _, .cons a b => .cons (s := .sh _) a (fun _ e => nomatch e) (RepVs.ofRps b)
def DAs (X : Cx) (es : List Expr) (δ : DS) (k : List S → Prop) : Prop := ∀ (σ : L2.St) (H : Hp) (W : Wd), WOk W H → RepS W H σ δ → ∀ Q : List V → Hp → Prop,
  (∀ vs ss W' H', k ss → Le W H W' H' → RepVs W' H' vs ss → Q vs H') → wA X es σ H Q
def DDs (X : Cx) (es : List Expr) (δ : DS) (k : List D → Prop) : Prop := ∀ (σ : L2.St) (H : Hp) (W : Wd), WOk W H → RepS W H σ δ → ∀ Q : List V → Hp → Prop,
  (∀ vs ds W' H', k ds → Le W H W' H' → Rps (hid W'.O H') vs ds → Q vs H') → wA X es σ H Q

section
variable {X : Cx} {e a b c : Expr} {es : List Expr} {δ : DS} {pos : Pos}
/-! ### from one to the other -/
theorem db_of {k : D → Prop} (h : DE X e δ k) : DB X e δ k := fun σ H W ok R Q q => h σ H W ok R Q fun v d W' H' hk l r => q v d W' H' hk l (.of l.ok r)
theorem dv_sh {k : S → Prop} (h : DE X e δ fun d => k (.sh d)) : DV X e δ k := fun σ H W ok R Q q => h σ H W ok R Q fun v d W' H' hk l r => q v (.sh d) W' H' hk l r trivial
theorem le_notB {W W' : Wd} {H H' : Hp} {l : Addr} (e : Le W H W' H') (h : l ∉ W.O) : l ∉ W'.B := fun z => h (e.ok0.bo l (by rw [← e.b]; exact z))
theorem dv_own {k : S → Prop} (h : DL X e δ fun ds => k (.own ds)) : DV X e δ k := fun σ H W ok R Q q => h σ H W ok R Q fun l vs ds W' H' hk le h1 h2 h3 h4 =>
  q (.ref l) (.own ds) W' H' hk le ⟨l, vs, rfl, h1, le_notB le h2, h3, h4⟩ fun l' e => by cases e; exact h2
/-- a hidden list comes to light -/
theorem Le.show_ {W W' : Wd} {H H' : Hp} {l : Addr} (e : Le W H W' H') (h : l ∉ W.O) : Le W H { W' with O := W'.O.filter fun a => decide (a ≠ l) } H' := by
  have hb := le_notB e h
  refine ⟨e.b, e.m, fun a ha => ?_, fun a ha => e.new a (List.mem_filter.mp ha).1, e.keep, e.ok0, ⟨fun a ha => e.ok.there a (List.mem_filter.mp ha).1, e.ok.mb, fun a ha => ?_, fun fd hf => ?_⟩⟩
  · exact List.mem_filter.mpr ⟨e.sub a ha, decide_eq_true fun z => h (z ▸ ha)⟩
  · exact List.mem_filter.mpr ⟨e.ok.bo a ha, decide_eq_true fun z : a = l => hb (z ▸ ha)⟩
  · obtain ⟨c, cells, n, r, t, h1, h2, h3⟩ := e.ok.feed fd hf
    exact ⟨c, cells, n, r, t, h1, fun z => h2 (List.mem_filter.mp z).1, h3⟩
theorem de_lst {k : D → Prop} (h : DL X e δ fun ds => k (.list ds)) : DE X e δ k := fun σ H W ok R Q q => h σ H W ok R Q fun l vs ds W' H' hk le h1 h2 h3 h4 => by
  refine q (.ref l) (.list ds) _ H' hk (le.show_ h2) (.lst (hid_of (fun z => ?_) h3) (h4.mono (hid_less fun a ha => (List.mem_filter.mp ha).1)))
  exact of_decide_eq_true (List.mem_filter.mp z).2 rfl
theorem db_lst {k : D → Prop} (h : DL X e δ fun ds => k (.list ds)) : DB X e δ k := db_of (de_lst h)
theorem DE.imp {k k' : D → Prop} (h : DE X e δ k) (hk : ∀ d, k d → k' d) : DE X e δ k' := fun σ H W ok R Q q => h σ H W ok R Q fun v d W' H' z => q v d W' H' (hk d z)
theorem DB.imp {k k' : D → Prop} (h : DB X e δ k) (hk : ∀ d, k d → k' d) : DB X e δ k' := fun σ H W ok R Q q => h σ H W ok R Q fun v d W' H' z => q v d W' H' (hk d z)
theorem DL.imp {k k' : List D → Prop} (h : DL X e δ k) (hk : ∀ d, k d → k' d) : DL X e δ k' := fun σ H W ok R Q q => h σ H W ok R Q fun l vs d W' H' z => q l vs d W' H' (hk d z)

/-! ### names, constants -/
theorem de_int {k : D → Prop} {i : Int} {j} (h : k (.int i)) : DE X (.Constant (.int i) j pos) δ k := fun σ H W ok R Q q => wE_of pe_int (q _ _ W H h (.rfl' ok) (.int i))
theorem de_bl {k : D → Prop} {i : Bool} {j} (h : k (.bool i)) : DE X (.Constant (.bool i) j pos) δ k := fun σ H W ok R Q q => wE_of pe_bl (q _ _ W H h (.rfl' ok) (.bl i))
theorem de_non {k : D → Prop} {j} (h : k .none) : DE X (.Constant .none j pos) δ k := fun σ H W ok R Q q => wE_of pe_non (q _ _ W H h (.rfl' ok) .non)
theorem de_str {k : D → Prop} {x : String} {j} (h : k (.str (Str.ofString x))) : DE X (.Constant (.str x) j pos) δ k := fun σ H W ok R Q q => wE_of pe_str (q _ _ W H h (.rfl' ok) (.str _))
theorem de_var (i : Nat) {k : D → Prop} {x : Str} {d : D} (hd : δ[i]? = some (some (.sh d))) (h : k d) (hN : X.N[i]? = some x := by rfl)
    (hv : Vis X.env.scope x := by first | exact Or.inl rfl | exact Or.inr (Or.inl rfl) | exact Or.inr (Or.inr rfl)) (hx : (x == ("__debug__" : Str)) = false := by decide)
    (hc : (x == ("__classdict__" : Str)) = false := by decide) : DE X (.Name x pos) δ k := fun σ H W ok R Q q => by
  obtain ⟨v, h1, h2⟩ := R.at_ i _ hd
  exact wE_of (pe_var hN hv hx hc) ⟨v, h1, q v d W H h (.rfl' ok) h2⟩
theorem db_own (i : Nat) {k : D → Prop} {x : Str} {ds : List D} (hd : δ[i]? = some (some (.own ds))) (h : k (.list ds)) (hN : X.N[i]? = some x := by rfl)
    (hv : Vis X.env.scope x := by first | exact Or.inl rfl | exact Or.inr (Or.inl rfl) | exact Or.inr (Or.inr rfl)) (hx : (x == ("__debug__" : Str)) = false := by decide)
    (hc : (x == ("__classdict__" : Str)) = false := by decide) : DB X (.Name x pos) δ k := fun σ H W ok R Q q => by
  obtain ⟨v, h1, l, vs, h2, h3, h4, h5, h6⟩ := R.at_ i _ hd
  exact wE_of (pe_var hN hv hx hc) ⟨v, h1, q v (.list ds) W H h (.rfl' ok) ⟨l, vs, h2, h4, h5, h6⟩⟩
theorem de_glob {k : D → Prop} {x : Str} {i : Int} (hm : ∃ t, X.mg x = some (.int i t)) (h : k (.int i)) (hg : Gl X x := by rfl) (hx : (x == ("__debug__" : Str)) = false := by decide) : DE X (.Name x pos) δ k := fun σ H W ok R Q q => by
  obtain ⟨t, hm⟩ := hm
  exact wE_of (pe_glob hg hm (v := .int i) ⟨t, rfl⟩ hx) (q _ _ W H h (.rfl' ok) (.int i))

/-! ### arithmetic -/
theorem de_opC {op : Operator} {C : Int → Int → Prop} {g : Int → Int → Int} {k : D → Prop} (ho : OpR X (binaryOp op) (rI C fun i j => .int (g i j)))
    (h : DE X a δ fun x => ∃ i, x = .int i ∧ DE X b δ fun y => ∃ j, y = .int j ∧ C i j ∧ k (.int (g i j))) : DE X (.BinOp a op b pos) δ k := fun σ H W ok R Q q => by
  refine wE_of (pe_op ho pe_w pe_w) (h σ H W ok R _ fun v d W1 H1 ⟨i, ei, hb⟩ e1 r1 => ?_)
  subst ei; cases r1
  refine hb σ H1 W1 e1.ok (R.le e1) _ fun v2 d2 W2 H2 ⟨j, ej, hc, hk⟩ e2 r2 => ?_
  subst ej; cases r2
  exact ⟨i, j, rfl, rfl, hc, q _ _ W2 H2 hk (e1.tr e2) (.int _)⟩
theorem de_op0 {op : Operator} {g : Int → Int → Int} {k : D → Prop} (ho : OpR X (binaryOp op) (rI0 fun i j => .int (g i j)))
    (h : DE X a δ fun x => ∃ i, x = .int i ∧ DE X b δ fun y => ∃ j, y = .int j ∧ k (.int (g i j))) : DE X (.BinOp a op b pos) δ k := fun σ H W ok R Q q => by
  refine wE_of (pe_op ho pe_w pe_w) (h σ H W ok R _ fun v d W1 H1 ⟨i, ei, hb⟩ e1 r1 => ?_)
  subst ei; cases r1
  refine hb σ H1 W1 e1.ok (R.le e1) _ fun v2 d2 W2 H2 ⟨j, ej, hk⟩ e2 r2 => ?_
  subst ej; cases r2
  exact ⟨i, j, rfl, rfl, q _ _ W2 H2 hk (e1.tr e2) (.int _)⟩
theorem de_add {k : D → Prop} (h : DE X a δ fun x => ∃ i, x = .int i ∧ DE X b δ fun y => ∃ j, y = .int j ∧ k (.int (i + j))) : DE X (.BinOp a .Add b pos) δ k := de_op0 op_add h
theorem de_sub {k : D → Prop} (h : DE X a δ fun x => ∃ i, x = .int i ∧ DE X b δ fun y => ∃ j, y = .int j ∧ k (.int (i - j))) : DE X (.BinOp a .Sub b pos) δ k := de_op0 op_sub h
theorem de_mul {k : D → Prop} (h : DE X a δ fun x => ∃ i, x = .int i ∧ DE X b δ fun y => ∃ j, y = .int j ∧ CMul i j ∧ k (.int (i * j))) : DE X (.BinOp a .Mult b pos) δ k := de_opC op_mul h
theorem de_mod {k : D → Prop} (h : DE X a δ fun x => ∃ i, x = .int i ∧ DE X b δ fun y => ∃ j, y = .int j ∧ 0 < j ∧ k (.int (i % j))) : DE X (.BinOp a .Mod b pos) δ k := de_opC (C := fun _ j => 0 < j) op_mod h
theorem de_fdiv {k : D → Prop} (h : DE X a δ fun x => ∃ i, x = .int i ∧ DE X b δ fun y => ∃ j, y = .int j ∧ CDiv i j ∧ k (.int (i / j))) : DE X (.BinOp a .FloorDiv b pos) δ k := de_opC op_fdiv h
theorem de_neg {k : D → Prop} (h : DE X a δ fun x => ∃ i, x = .int i ∧ k (.int (-i))) : DE X (.UnaryOp .USub a pos) δ k := fun σ H W ok R Q q => by
  refine wE_of (pe_un un_neg pe_w) (h σ H W ok R _ fun v d W1 H1 ⟨i, ei, hk⟩ e1 r1 => ?_)
  subst ei; cases r1
  exact ⟨i, rfl, q _ _ W1 H1 hk e1 (.int _)⟩

/-! ### comparisons -/
theorem pc_of {op : CmpOp} {r : R2} {ta tb : TE} (ho : OpR X (compareOp op) r) (ha : PE X a ta) (hb : PE X b tb) : PC X op a b (tOp r ta tb) :=
  ⟨fun pins s σ H Q I h => bin ha hb I h fun v u s2 x y H2 I2 rx ry q => ho pins s2 σ H2 x y v u Q I2 rx ry q⟩
theorem de_cmp {op : CmpOp} {k : D → Prop} (h : DC X op a b δ fun c => k (.bool c)) (hm : behindInMarks op b = false := by first | exact nobehind _ (by decide) (by decide) | rfl) : DE X (.Compare a [op] [b] pos) δ k := fun σ H W ok R Q q => by
  obtain ⟨t, hp, h⟩ := h
  exact wE_of (pe_cmp hp hm) (h σ H W ok R Q fun c W' H' hk le => q _ (.bool c) W' H' hk le (.bl c))
theorem dt_cmp {op : CmpOp} {k : Bool → Prop} (h : DC X op a b δ k) (hm : behindInMarks op b = false := by first | exact nobehind _ (by decide) (by decide) | rfl) : DT X (.Compare a [op] [b] pos) δ k := fun σ H W ok R Q q => by
  obtain ⟨t, hp, h⟩ := h
  exact wT_of (pt_cmp hp hm) (h σ H W ok R _ fun c W' H' hk le => ⟨c, rfl, q c W' H' hk le⟩)
theorem dc_int {op : CmpOp} {g : Int → Int → Bool} {k : Bool → Prop} (ho : OpR X (compareOp op) (rI0 fun i j => .bl (g i j)))
    (h : DE X a δ fun x => ∃ i, x = .int i ∧ DE X b δ fun y => ∃ j, y = .int j ∧ k (g i j)) : DC X op a b δ k :=
  ⟨_, pc_of ho pe_w pe_w, fun σ H W ok R Q q => by
    refine h σ H W ok R _ fun v d W1 H1 ⟨i, ei, hb⟩ e1 r1 => ?_
    subst ei; cases r1
    refine hb σ H1 W1 e1.ok (R.le e1) _ fun v2 d2 W2 H2 ⟨j, ej, hk⟩ e2 r2 => ?_
    subst ej; cases r2
    exact ⟨i, j, rfl, rfl, q _ W2 H2 hk (e1.tr e2)⟩⟩
theorem dc_lt {k : Bool → Prop} (h : DE X a δ fun x => ∃ i, x = .int i ∧ DE X b δ fun y => ∃ j, y = .int j ∧ k (decide (i < j))) : DC X .Lt a b δ k := dc_int op_lt h
theorem dc_le {k : Bool → Prop} (h : DE X a δ fun x => ∃ i, x = .int i ∧ DE X b δ fun y => ∃ j, y = .int j ∧ k (decide (i ≤ j))) : DC X .LtE a b δ k := dc_int op_le h
theorem dc_gt {k : Bool → Prop} (h : DE X a δ fun x => ∃ i, x = .int i ∧ DE X b δ fun y => ∃ j, y = .int j ∧ k (decide (j < i))) : DC X .Gt a b δ k := dc_int op_gt h
theorem dc_ge {k : Bool → Prop} (h : DE X a δ fun x => ∃ i, x = .int i ∧ DE X b δ fun y => ∃ j, y = .int j ∧ k (decide (j ≤ i))) : DC X .GtE a b δ k := dc_int op_ge h
/-- == of any data -/
theorem dc_eqD (hu : X.A.units + 64 < cLine) {k : Bool → Prop} (h : DB X a δ fun x => DB X b δ fun y => SeqAt.shaped x = true ∧ SeqAt.shaped y = true ∧ k (PyData.eqv x y)) : DC X .Eq a b δ k :=
  ⟨_, pc_of (op_eqD hu) pe_w pe_w, fun σ H W ok R Q q => by
    refine h σ H W ok R _ fun v d W1 H1 hb e1 r1 => ?_
    refine hb σ H1 W1 e1.ok (R.le e1) _ fun v2 d2 W2 H2 ⟨s1, s2, hk⟩ e2 r2 => ?_
    exact ⟨d, d2, (r1.le e2).dp, r2.dp, s1, s2, q _ W2 H2 hk (e1.tr e2)⟩⟩
theorem dc_neD (hu : X.A.units + 64 < cLine) {k : Bool → Prop} (h : DB X a δ fun x => DB X b δ fun y => SeqAt.shaped x = true ∧ SeqAt.shaped y = true ∧ k (!PyData.eqv x y)) : DC X .NotEq a b δ k :=
  ⟨_, pc_of (op_neD hu) pe_w pe_w, fun σ H W ok R Q q => by
    refine h σ H W ok R _ fun v d W1 H1 hb e1 r1 => ?_
    refine hb σ H1 W1 e1.ok (R.le e1) _ fun v2 d2 W2 H2 ⟨s1, s2, hk⟩ e2 r2 => ?_
    exact ⟨d, d2, (r1.le e2).dp, r2.dp, s1, s2, q _ W2 H2 hk (e1.tr e2)⟩⟩
theorem dc_eqI {k : Bool → Prop} (h : DE X a δ fun x => ∃ i, x = .int i ∧ DE X b δ fun y => ∃ j, y = .int j ∧ k (decide (i = j))) : DC X .Eq a b δ k :=
  ⟨_, pc_eqI pe_w pe_w, fun σ H W ok R Q q => by
    refine h σ H W ok R _ fun v d W1 H1 ⟨i, ei, hb⟩ e1 r1 => ?_
    subst ei; cases r1
    refine hb σ H1 W1 e1.ok (R.le e1) _ fun v2 d2 W2 H2 ⟨j, ej, hk⟩ e2 r2 => ?_
    subst ej; cases r2
    exact ⟨i, j, rfl, rfl, q _ W2 H2 hk (e1.tr e2)⟩⟩
theorem dc_neI {k : Bool → Prop} (h : DE X a δ fun x => ∃ i, x = .int i ∧ DE X b δ fun y => ∃ j, y = .int j ∧ k (!decide (i = j))) : DC X .NotEq a b δ k :=
  ⟨_, pc_neI pe_w pe_w, fun σ H W ok R Q q => by
    refine h σ H W ok R _ fun v d W1 H1 ⟨i, ei, hb⟩ e1 r1 => ?_
    subst ei; cases r1
    refine hb σ H1 W1 e1.ok (R.le e1) _ fun v2 d2 W2 H2 ⟨j, ej, hk⟩ e2 r2 => ?_
    subst ej; cases r2
    exact ⟨i, j, rfl, rfl, q _ W2 H2 hk (e1.tr e2)⟩⟩
def isNone : D → Bool
  | .none => true
  | _ => false
theorem rb_none {W : Wd} {H : Hp} {v : V} {d : D} (r : RepB W H v d) : decide (v = V.non) = isNone d := by
  cases d with
  | list ds => obtain ⟨l, vs, h, _⟩ := r; subst h; rfl
  | none => cases (show Rp _ v .none from r); rfl
  | bool b => cases (show Rp _ v (.bool b) from r); rfl
  | int b => cases (show Rp _ v (.int b) from r); rfl
  | str b => cases (show Rp _ v (.str b) from r); rfl
  | tuple b => cases (show Rp _ v (.tuple b) from r); rfl
  | dict b => cases (show Rp _ v (.dict b) from r)
theorem dc_isN {k : Bool → Prop} {j} {p : Pos} (h : DB X a δ fun x => k (isNone x)) : DC X .Is a (.Constant .none j p) δ k :=
  ⟨_, pc_isN pe_w, fun σ H W ok R Q q => h σ H W ok R _ fun v d W1 H1 hk e1 r1 => by
    show Q (.bl (decide (v = .non))) H1
    rw [rb_none r1]
    exact q _ W1 H1 hk e1⟩
theorem dc_notN {k : Bool → Prop} {j} {p : Pos} (h : DB X a δ fun x => k (!isNone x)) : DC X .IsNot a (.Constant .none j p) δ k :=
  ⟨_, pc_notN pe_w, fun σ H W ok R Q q => h σ H W ok R _ fun v d W1 H1 hk e1 r1 => by
    show Q (.bl (!decide (v = .non))) H1
    rw [rb_none r1]
    exact q _ W1 H1 hk e1⟩
/-- a number in a list or tuple of numbers -/
theorem inV_ints (i : Int) : ∀ ns : List Int, inV (.int i) (ns.map V.int) = decide (i ∈ ns)
  | [] => rfl
  | n :: ns => by
    show (eqV (.int n) (.int i) || inV (.int i) (ns.map V.int)) = _
    rw [inV_ints i ns]
    show ((n == i) || _) = _
    by_cases e : n = i
    · subst e; simp
    · have e2 : ¬ i = n := fun z => e z.symm
      simp [e, e2]
theorem flat_ints : ∀ ns : List Int, (ns.map V.int).all flatV = true
  | [] => rfl
  | n :: ns => by rw [List.map_cons, List.all_cons, flat_ints ns]; rfl
theorem dc_in {k : Bool → Prop} (h : DE X a δ fun x => ∃ i, x = .int i ∧ DB X b δ fun y => ∃ ns : List Int, isSeq y (ns.map .int) ∧ k (decide (i ∈ ns))) : DC X .In a b δ k :=
  ⟨_, pc_of op_in_seq pe_w pe_w, fun σ H W ok R Q q => by
    refine h σ H W ok R _ fun v d W1 H1 ⟨i, ei, hb⟩ e1 r1 => ?_
    subst ei; cases r1
    refine hb σ H1 W1 e1.ok (R.le e1) _ fun v2 d2 W2 H2 ⟨ns, hs, hk⟩ e2 r2 => ?_
    obtain ⟨l, vs, h1, _, h3, h4⟩ := r2.seq e2.ok hs
    have e := h4.ints
    subst h1 e
    refine ⟨l, _, rfl, ?_, rfl, flat_ints ns, ?_⟩
    · rcases h3 with h3 | h3
      · exact .inl (SqL.of h3)
      · exact .inr (SqT.of h3)
    · show Q (.bl (inV (.int i) (ns.map V.int))) H2
      rw [inV_ints]
      exact q _ W2 H2 hk (e1.tr e2)⟩
theorem dc_notin {k : Bool → Prop} (h : DE X a δ fun x => ∃ i, x = .int i ∧ DB X b δ fun y => ∃ ns : List Int, isSeq y (ns.map .int) ∧ k (!decide (i ∈ ns))) : DC X .NotIn a b δ k :=
  ⟨_, pc_of op_notIn_seq pe_w pe_w, fun σ H W ok R Q q => by
    refine h σ H W ok R _ fun v d W1 H1 ⟨i, ei, hb⟩ e1 r1 => ?_
    subst ei; cases r1
    refine hb σ H1 W1 e1.ok (R.le e1) _ fun v2 d2 W2 H2 ⟨ns, hs, hk⟩ e2 r2 => ?_
    obtain ⟨l, vs, h1, _, h3, h4⟩ := r2.seq e2.ok hs
    have e := h4.ints
    subst h1 e
    refine ⟨l, _, rfl, ?_, rfl, flat_ints ns, ?_⟩
    · rcases h3 with h3 | h3
      · exact .inl (SqL.of h3)
      · exact .inr (SqT.of h3)
    · show Q (.bl (!inV (.int i) (ns.map V.int))) H2
      rw [inV_ints]
      exact q _ W2 H2 hk (e1.tr e2)⟩
/-- a < b <= c of numbers -/
theorem ch_core {r r' : R2} {g g' : Int → Int → Bool} {k : Bool → Prop} (hr : r = rI0 fun i j => .bl (g i j)) (hr' : r' = rI0 fun i j => .bl (g' i j))
    (h : DE X a δ fun x => ∃ i, x = .int i ∧ DE X b δ fun y => ∃ j, y = .int j ∧ if g i j = true then DE X c δ fun z => ∃ l, z = .int l ∧ k (g' j l) else k false)
    {σ : L2.St} {H : Hp} {W : Wd} (ok : WOk W H) (R : RepS W H σ δ) (Q : VK) (q : ∀ c W' H', k c → Le W H W' H' → Q (.bl c) H') : tChain r r' (wE X a) (wE X b) (wE X c) σ H Q := by
  subst hr hr'
  refine h σ H W ok R _ fun v d W1 H1 ⟨i, ei, hb⟩ e1 r1 => ?_
  subst ei; cases r1
  refine hb σ H1 W1 e1.ok (R.le e1) _ fun v2 d2 W2 H2 ⟨j, ej, hk⟩ e2 r2 => ?_
  subst ej; cases r2
  refine ⟨i, j, rfl, rfl, g i j, rfl, ?_⟩
  by_cases e : g i j = true
  · rw [if_pos e] at hk ⊢
    refine hk σ H2 W2 e2.ok (R.le (e1.tr e2)) _ fun v3 d3 W3 H3 ⟨l, el, hl⟩ e3 r3 => ?_
    subst el; cases r3
    exact ⟨j, l, rfl, rfl, q _ W3 H3 hl ((e1.tr e2).tr e3)⟩
  · rw [if_neg e] at hk ⊢
    exact q _ W2 H2 hk (e1.tr e2)
theorem dt_ltlt {k : Bool → Prop} (h : DE X a δ fun x => ∃ i, x = .int i ∧ DE X b δ fun y => ∃ j, y = .int j ∧ if decide (i < j) = true then DE X c δ fun z => ∃ l, z = .int l ∧ k (decide (j < l)) else k false)
    (hm : lastMarks [CmpOp.Lt, CmpOp.Lt] [b, c] = false := by with_unfolding_all rfl) : DT X (.Compare a [.Lt, .Lt] [b, c] pos) δ k := fun σ H W ok R Q q =>
  wT_of (pt_chain op_lt op_lt pe_w pe_w pe_w hm) (ch_core rfl rfl h ok R _ fun c W' H' hk le => ⟨c, rfl, q c W' H' hk le⟩)
theorem de_ltle {k : D → Prop} (h : DE X a δ fun x => ∃ i, x = .int i ∧ DE X b δ fun y => ∃ j, y = .int j ∧ if decide (i < j) = true then DE X c δ fun z => ∃ l, z = .int l ∧ k (.bool (decide (j ≤ l))) else k (.bool false))
    (hm : lastMarks [CmpOp.Lt, CmpOp.LtE] [b, c] = false := by with_unfolding_all rfl) : DE X (.Compare a [.Lt, .LtE] [b, c] pos) δ k := fun σ H W ok R Q q =>
  wE_of (pe_chain op_lt op_le pe_w pe_w pe_w hm) (ch_core (k := fun c => k (.bool c)) rfl rfl h ok R _ fun c W' H' hk le => q _ (.bool c) W' H' hk le (.bl c))

/-! ### tests, and, or, not -/
theorem dt_val {k : Bool → Prop} (h : DE X e δ fun d => ∃ c, d = .bool c ∧ k c) (he : ∀ whole, isTrue e X.env whole = (do let v ← whole; standAt e.pos; holding [v] (truthy v)) := by intro _; rfl) : DT X e δ k := fun σ H W ok R Q q =>
  wT_of (pt_val pe_w he) (h σ H W ok R _ fun v d W' H' ⟨c, e1, hk⟩ le r => by subst e1; cases r; exact ⟨c, rfl, q c W' H' hk le⟩)
theorem dt_not {k : Bool → Prop} (h : DT X a δ fun c => k (!c)) : DT X (.UnaryOp .Not a pos) δ k := fun σ H W ok R Q q => wT_of (pt_not pt_w) (h σ H W ok R _ fun c W' H' hk le => q _ W' H' hk le)
theorem dt_w {k : Bool → Prop} (h : DW X e δ k) : DT X e δ k := fun σ H W ok R Q q => wT_of pw_w.pt (h σ H W ok R Q q)
theorem dw_and1 {k : Bool → Prop} (h : DT X a δ k) : DW X (.BoolOp .And [a] pos) δ k := fun σ H W ok R Q q => wW_of (pw_and1 pt_w) (h σ H W ok R Q q)
theorem dw_or1 {k : Bool → Prop} (h : DT X a δ k) : DW X (.BoolOp .Or [a] pos) δ k := fun σ H W ok R Q q => wW_of (pw_or1 pt_w) (h σ H W ok R Q q)
theorem dw_and {k : Bool → Prop} (h : DT X a δ fun c => if c = true then DW X (.BoolOp .And (b :: es) pos) δ k else k false) : DW X (.BoolOp .And (a :: b :: es) pos) δ k := fun σ H W ok R Q q =>
  wW_of (pw_and pt_w pw_w) (h σ H W ok R _ fun c W1 H1 hk e1 => by
    cases c with
    | true => exact hk σ H1 W1 e1.ok (R.le e1) _ fun c2 W2 H2 hk2 e2 => q c2 W2 H2 hk2 (e1.tr e2)
    | false => exact q false W1 H1 hk e1)
theorem dw_or {k : Bool → Prop} (h : DT X a δ fun c => if c = true then k true else DW X (.BoolOp .Or (b :: es) pos) δ k) : DW X (.BoolOp .Or (a :: b :: es) pos) δ k := fun σ H W ok R Q q =>
  wW_of (pw_or pt_w pw_w) (h σ H W ok R _ fun c W1 H1 hk e1 => by
    cases c with
    | false => exact hk σ H1 W1 e1.ok (R.le e1) _ fun c2 W2 H2 hk2 e2 => q c2 W2 H2 hk2 (e1.tr e2)
    | true => exact q true W1 H1 hk e1)
/-- two tests, by their answers -/
theorem dt_and {k : Bool → Prop} (h : DT X a δ fun c => if c = true then DT X b δ k else k false) : DT X (.BoolOp .And [a, b] pos) δ k := dt_w (dw_and fun σ H W ok R Q q => h σ H W ok R Q fun c W' H' hk => q c W' H' (by
  cases c with
  | true => exact dw_and1 hk
  | false => exact hk))
theorem dt_or {k : Bool → Prop} (h : DT X a δ fun c => if c = true then k true else DT X b δ k) : DT X (.BoolOp .Or [a, b] pos) δ k := dt_w (dw_or fun σ H W ok R Q q => h σ H W ok R Q fun c W' H' hk => q c W' H' (by
  cases c with
  | true => exact hk
  | false => exact dw_or1 hk))
theorem de_one {op} {k : D → Prop} (h : DE X a δ k) : DE X (.BoolOp op [a] pos) δ k := fun σ H W ok R Q q => wE_of (pe_one pe_w) (h σ H W ok R Q q)
theorem de_and {k : D → Prop} (h : DE X a δ fun x => ∃ c, x = .bool c ∧ if c = true then DE X (.BoolOp .And (b :: es) pos) δ k else k (.bool false)) : DE X (.BoolOp .And (a :: b :: es) pos) δ k := fun σ H W ok R Q q =>
  wE_of (pe_and pe_w pe_w) (h σ H W ok R _ fun v d W1 H1 ⟨c, e, hk⟩ e1 r1 => by
    subst e; cases r1
    refine ⟨c, rfl, ?_⟩
    cases c with
    | true => exact hk σ H1 W1 e1.ok (R.le e1) _ fun v2 d2 W2 H2 hk2 e2 r2 => q v2 d2 W2 H2 hk2 (e1.tr e2) r2
    | false => exact q _ _ W1 H1 hk e1 (.bl false))
theorem de_or {k : D → Prop} (h : DE X a δ fun x => ∃ c, x = .bool c ∧ if c = true then k (.bool true) else DE X (.BoolOp .Or (b :: es) pos) δ k) : DE X (.BoolOp .Or (a :: b :: es) pos) δ k := fun σ H W ok R Q q =>
  wE_of (pe_or pe_w pe_w) (h σ H W ok R _ fun v d W1 H1 ⟨c, e, hk⟩ e1 r1 => by
    subst e; cases r1
    refine ⟨c, rfl, ?_⟩
    cases c with
    | false => exact hk σ H1 W1 e1.ok (R.le e1) _ fun v2 d2 W2 H2 hk2 e2 r2 => q v2 d2 W2 H2 hk2 (e1.tr e2) r2
    | true => exact q _ _ W1 H1 hk e1 (.bl true))
theorem de_not {k : D → Prop} (h : DE X a δ fun x => ∃ c, x = .bool c ∧ k (.bool (!c))) : DE X (.UnaryOp .Not a pos) δ k := fun σ H W ok R Q q =>
  wE_of (pe_not pe_w) (h σ H W ok R _ fun v d W1 H1 ⟨c, e, hk⟩ e1 r1 => by
    subst e; cases r1
    exact ⟨c, rfl, q _ _ W1 H1 hk e1 (.bl _)⟩)
theorem de_if {k : D → Prop} (h : DT X c δ fun t => if t = true then DE X a δ k else DE X b δ k) : DE X (.IfExp c a b pos) δ k := fun σ H W ok R Q q =>
  wE_of (pe_ifExp pt_w pe_w pe_w) (h σ H W ok R _ fun t W1 H1 hk e1 => by
    cases t with
    | true => exact hk σ H1 W1 e1.ok (R.le e1) _ fun v2 d2 W2 H2 hk2 e2 r2 => q v2 d2 W2 H2 hk2 (e1.tr e2) r2
    | false => exact hk σ H1 W1 e1.ok (R.le e1) _ fun v2 d2 W2 H2 hk2 e2 r2 => q v2 d2 W2 H2 hk2 (e1.tr e2) r2)
theorem dv_if {k : S → Prop} (h : DT X c δ fun t => if t = true then DV X a δ k else DV X b δ k) : DV X (.IfExp c a b pos) δ k := fun σ H W ok R Q q =>
  wE_of (pe_ifExp pt_w pe_w pe_w) (h σ H W ok R _ fun t W1 H1 hk e1 => by
    have fr : ∀ {v : V} {s : S}, FreshV W1 v s → FreshV W v s := fun {v s} f => by
      cases s with
      | own ds => exact fun l e z => f l e (e1.sub l z)
      | _ => trivial
    cases t with
    | true => exact hk σ H1 W1 e1.ok (R.le e1) _ fun v2 d2 W2 H2 hk2 e2 r2 f2 => q v2 d2 W2 H2 hk2 (e1.tr e2) r2 (fr f2)
    | false => exact hk σ H1 W1 e1.ok (R.le e1) _ fun v2 d2 W2 H2 hk2 e2 r2 f2 => q v2 d2 W2 H2 hk2 (e1.tr e2) r2 (fr f2))
theorem dl_if {k : List D → Prop} (h : DT X c δ fun t => if t = true then DL X a δ k else DL X b δ k) : DL X (.IfExp c a b pos) δ k := fun σ H W ok R Q q =>
  wE_of (pe_ifExp pt_w pe_w pe_w) (h σ H W ok R _ fun t W1 H1 hk e1 => by
    cases t with
    | true => exact hk σ H1 W1 e1.ok (R.le e1) _ fun l vs ds W2 H2 hk2 e2 h1 h2 h3 h4 => q l vs ds W2 H2 hk2 (e1.tr e2) h1 (fun z => h2 (e1.sub l z)) h3 h4
    | false => exact hk σ H1 W1 e1.ok (R.le e1) _ fun l vs ds W2 H2 hk2 e2 h1 h2 h3 h4 => q l vs ds W2 H2 hk2 (e1.tr e2) h1 (fun z => h2 (e1.sub l z)) h3 h4)

/-! ### what is handed over, displays -/
theorem da_nil {k : List S → Prop} (h : k []) : DAs X [] δ k := fun σ H W ok R Q q => wA_of pa_nil (q [] [] W H h (.rfl' ok) .nil)
theorem da_cons {k : List S → Prop} (h : DE X e δ fun d => DAs X es δ fun ss => k (.sh d :: ss)) (hs : starEach (e :: es) X.env = (false, eval e X.env) :: starEach es X.env := by rfl) : DAs X (e :: es) δ k := fun σ H W ok R Q q =>
  wA_of (pa_cons pe_w pa_w hs) (h σ H W ok R _ fun v d W1 H1 hk e1 r1 => hk σ H1 W1 e1.ok (R.le e1) _ fun vs ss W2 H2 hk2 e2 r2 =>
    q (v :: vs) (.sh d :: ss) W2 H2 hk2 (e1.tr e2) (.cons (s := .sh d) (r1.mono e2.hid) (fun _ z => nomatch z) r2))
/-- the feed's name -/
theorem da_fee (i : Nat) {k : List S → Prop} {x : Str} (hd : δ[i]? = some (some .fee)) (h : DAs X es δ fun ss => k (.fee :: ss)) (hN : X.N[i]? = some x := by rfl)
    (hv : Vis X.env.scope x := by first | exact Or.inl rfl | exact Or.inr (Or.inl rfl) | exact Or.inr (Or.inr rfl)) (hx : (x == ("__debug__" : Str)) = false := by decide)
    (hc : (x == ("__classdict__" : Str)) = false := by decide) (hs : starEach (.Name x pos :: es) X.env = (false, eval (.Name x pos) X.env) :: starEach es X.env := by rfl) : DAs X (.Name x pos :: es) δ k := fun σ H W ok R Q q => by
  obtain ⟨v, h1, h2⟩ := R.at_ i _ hd
  exact wA_of (pa_cons (pe_var hN hv hx hc) pa_w hs) ⟨v, h1, h σ H W ok R _ fun vs ss W2 H2 hk2 e2 r2 => q (v :: vs) (.fee :: ss) W2 H2 hk2 e2 (.cons (s := .fee) (RepV.le e2 h2) (fun _ z => nomatch z) r2)⟩
theorem dd_nil {k : List D → Prop} (h : k []) : DDs X [] δ k := fun σ H W ok R Q q => wA_of pa_nil (q [] [] W H h (.rfl' ok) .nil)
theorem dd_cons {k : List D → Prop} (h : DE X e δ fun d => DDs X es δ fun ds => k (d :: ds)) (hs : starEach (e :: es) X.env = (false, eval e X.env) :: starEach es X.env := by rfl) : DDs X (e :: es) δ k := fun σ H W ok R Q q =>
  wA_of (pa_cons pe_w pa_w hs) (h σ H W ok R _ fun v d W1 H1 hk e1 r1 => hk σ H1 W1 e1.ok (R.le e1) _ fun vs ss W2 H2 hk2 e2 r2 =>
    q (v :: vs) (d :: ss) W2 H2 hk2 (e1.tr e2) (.cons (r1.mono e2.hid) r2))
theorem dd_star {k : List D → Prop} {p : Pos} (h : DB X e δ fun d => ∃ ds, isSeq d ds ∧ DDs X es δ fun es => k (ds ++ es)) (hs : starEach (.Starred e p :: es) X.env = (true, eval e X.env) :: starEach es X.env := by rfl) : DDs X (.Starred e p :: es) δ k := fun σ H W ok R Q q =>
  wA_of (StX.pa_star pe_w pa_w hs) (h σ H W ok R _ fun v d W1 H1 ⟨ds, hd, hk⟩ e1 r1 => by
    obtain ⟨l, vs, h1, _, h3, h4⟩ := r1.seq e1.ok hd
    subst h1
    refine ⟨l, vs, rfl, ?_, hk σ H1 W1 e1.ok (R.le e1) _ fun us fs W2 H2 hk2 e2 r2 => q (vs ++ us) (ds ++ fs) W2 H2 hk2 (e1.tr e2) ((h4.mono e2.hid).app r2)⟩
    rcases h3 with h3 | h3
    · exact .inr (SqL.of h3)
    · exact .inl (SqT.of h3))
theorem small_line {n : Nat} (h : n ≤ 100000) : n ≤ sizeLine := Nat.le_trans h (by decide)
theorem small_lineT {n : Nat} (h : n < 100000) : n < sizeLine := Nat.lt_of_lt_of_le h (by decide)
/-- a new object -/
theorem new_tup {W : Wd} {H : Hp} {p : Addr} {vs : List V} {ds : List D} (ok : WOk W H) (hp : H p = none) (r : Rps (hid W.O H) vs ds) : Le W H W (upd H p (.tup vs)) ∧ Rp (hid W.O (upd H p (.tup vs))) (.ref p) (.tuple ds) := by
  have le : Le W H W (upd H p (.tup vs)) := .put ok hp
  exact ⟨le, .tup (hid_of (fun z => ok.there p z hp) upd_same) (r.mono le.hid)⟩
theorem new_lst {W : Wd} {H : Hp} {p : Addr} {vs : List V} {ds : List D} (ok : WOk W H) (hp : H p = none) (r : Rps (hid W.O H) vs ds) :
    Le W H (W.add p) (upd H p (.lst vs)) ∧ p ∈ (W.add p).O ∧ p ∉ W.O ∧ (upd H p (.lst vs)) p = some (.lst vs) ∧ Rps (hid (W.add p).O (upd H p (.lst vs))) vs ds := by
  have le : Le W H (W.add p) (upd H p (.lst vs)) := .own ok hp
  exact ⟨le, List.mem_cons_self, fun z => ok.there p z hp, upd_same, r.mono le.hid⟩
theorem de_tuple {k : D → Prop} {x1} (h : DDs X es δ fun ds => ds.length ≤ 100000 ∧ k (.tuple ds)) : DE X (.Tuple es x1 pos) δ k := fun σ H W ok R Q q =>
  wE_of (pe_tup pa_w) (h σ H W ok R _ fun vs ds W1 H1 ⟨hl, hk⟩ e1 r1 => ⟨by rw [r1.len]; exact small_line hl, fun p hp => by
    obtain ⟨le, rp⟩ := new_tup e1.ok hp r1
    exact q _ _ W1 _ hk (e1.tr le) rp⟩)
theorem dl_list {k : List D → Prop} (h : DDs X es δ fun ds => ds.length ≤ 100000 ∧ k ds) : DL X (.List es pos) δ k := fun σ H W ok R Q q =>
  wE_of (pe_lst pa_w) (h σ H W ok R _ fun vs ds W1 H1 ⟨hl, hk⟩ e1 r1 => ⟨by rw [r1.len]; exact small_line hl, fun p hp => by
    obtain ⟨le, h1, h2, h3, h4⟩ := new_lst e1.ok hp r1
    exact q p vs ds _ _ hk (e1.tr le) h1 (fun z => h2 (e1.sub p z)) h3 h4⟩)
end
end Dt

/-! Dat3: calls of defs and built-ins, subscripts, slices; statements; a def's promise. -/
namespace Dt
open PySem PySem.Spec L2

/-! ### a def's promise over data -/
abbrev FS := List S → (D → Prop) → Prop
def spOf (F : FS) : Sp := fun vs H Q _ => ∃ (W : Wd) (ss : List S) (k : D → Prop), WOk W H ∧ W.O = W.B ∧ RepVs W H vs ss ∧ F ss k ∧ ∀ v d W' H', k d → Le W H W' H' → Rp (hid W.B H') v d → Q v H'
/-- a def as its callers see it: dd the defaults that fill up -/
def Cal (P : Program) (w : World) (K : PySem.W.Frag) (mg : Str → Option Value) (base : Heap) (nm : Str) (lv : Nat) (dd : List D) (F : FS) : Prop :=
  ∃ (f : Addr) (fd : FuncData) (ps : List Str) (dvs : List V) (ds : List Value), FnOk P w K mg base CX0 lv f fd ps (spOf F) ∧ mg nm = some (.ref f) ∧ PySem.W.keepIn K (.ref f) = true ∧ Binds K fd ps ds ∧ Vals dvs ds ∧ ∀ H, Rps H dvs dd
section
variable {X : Cx} {e a b c : Expr} {es : List Expr} {δ : DS} {pos : Pos}
/-- the heap behind a call, for the caller -/
theorem Le.back {W W' : Wd} {H H' : Hp} (ok : WOk W H) (e : Le { W with B := W.O } H W' H') : Le W H W H' := by
  refine ⟨rfl, rfl, fun _ h => h, fun _ h => .inl h, e.keep, ok, ⟨fun l hl => e.ok.there l (e.sub l hl), ok.mb, ok.bo, fun fd hf => ?_⟩⟩
  obtain ⟨c, cells, n, r, t, h1, h2, h3⟩ := e.ok.feed fd (by rw [e.m]; exact hf)
  exact ⟨c, cells, n, r, t, h1, fun z => h2 (e.sub c z), h3⟩
theorem RepVs.base {W : Wd} {H : Hp} {B : List Addr} : ∀ {vs : List V} {ss : List S}, RepVs W H vs ss → RepVs { W with B := B } H vs ss
  | _, _, .nil => .nil
  | _, _, .cons (s := s) a n b => by
    refine .cons ?_ n (RepVs.base b)
    cases s with
    | own ds => exact absurd rfl (n ds)
    | sh d => exact a
    | tab kvs => exact a
    | fee => exact a
theorem sp_call {F : FS} {W : Wd} {H : Hp} {vs : List V} {ss : List S} {k : D → Prop} {Q : VK} {E : XK} (ok : WOk W H) (r : RepVs W H vs ss) (hF : F ss k) (q : ∀ v d H', k d → Le W H W H' → Rp (hid W.O H') v d → Q v H') : spOf F vs H Q E :=
  ⟨{ W with B := W.O }, ss, k, ⟨ok.there, fun l h => ok.bo l (ok.mb l h), fun l h => h, ok.feed⟩, rfl, r.base, hF, fun v d W' H' hk le rp => q v d H' hk (le.back ok) rp⟩
theorem de_call {x : Str} {p : Pos} {lv : Nat} {dd : List D} {F : FS} {k : D → Prop} (C : Cal X.prog X.w X.K X.mg X.base x lv dd F) (hr : Room lv X.A) (h : DAs X (e :: es) δ fun ss => F (ss ++ dd.map .sh) k) (hg : Gl X x := by rfl)
    (hx : (x == ("__debug__" : Str)) = false := by decide) (he : starEach (e :: es) X.env = (false, eval e X.env) :: starEach es X.env := by rfl) (hpl : (backTo pos (starEach es X.env)).any (·.1) = false := by rfl) :
    DE X (.Call (.Name x p) (e :: es) [] pos) δ k := fun σ H W ok R Q q => by
  obtain ⟨f, fd, ps, dvs, ds, F1, h1, h2, h3, h4, h5⟩ := C
  refine wE_of (pe_call F1 hr hg h1 h2 h3 h4 pass0 pa_w hx he hpl) (h σ H W ok R _ fun vs ss W1 H1 hF e1 r1 => ?_)
  exact sp_call e1.ok (r1.app (.ofRps (h5 _))) hF fun v d H' hk le rp => q v d W1 H' hk (e1.tr le) rp

/-! ### built-ins -/
theorem db_callB {x : Str} {id : String} {r : List V → Hp → VK → Prop} {p : Pos} {k : D → Prop} (hc : CallR X (.builtin id) r) (hm : X.mg x = none) (hv : bootBuiltins x = some (.builtin id))
    (h : ∀ (σ : L2.St) (H : Hp) (W : Wd), WOk W H → RepS W H σ δ → ∀ Q : VK, (∀ v d W' H', k d → Le W H W' H' → RepB W' H' v d → Q v H') → wA X (e :: es) σ H fun vs H1 => r vs H1 Q)
    (hg : Gl X x := by rfl) (hn : x ≠ "__name__" := by decide) (hx : (x == ("__debug__" : Str)) = false := by decide) (he : starEach (e :: es) X.env = (false, eval e X.env) :: starEach es X.env := by rfl)
    (hpl : (backTo pos (starEach es X.env)).any (·.1) = false := by rfl) : DB X (.Call (.Name x p) (e :: es) [] pos) δ k := fun σ H W ok R Q q =>
  wE_of (pe_callB hc hg hm hv pa_w hn hx he hpl) (h σ H W ok R Q q)
/-- one thing looked at -/
def DB1 (X : Cx) (e : Expr) (δ : DS) (k : D → Prop) : Prop := ∀ (σ : L2.St) (H : Hp) (W : Wd), WOk W H → RepS W H σ δ → ∀ Q : List V → Hp → Prop,
  (∀ v d W' H', k d → Le W H W' H' → RepB W' H' v d → Q [v] H') → wA X [e] σ H Q
theorem db1 {k : D → Prop} (h : DB X e δ k) (hs : starEach [e] X.env = (false, eval e X.env) :: starEach [] X.env := by rfl) : DB1 X e δ k := fun σ H W ok R Q q =>
  wA_of (pa_cons pe_w pa_nil hs) (h σ H W ok R _ fun v d W1 H1 hk e1 r1 => q v d W1 H1 hk e1 r1)
theorem de_len {p : Pos} {k : D → Prop} (hm : X.mg "len" = none) (h : DB X e δ fun d => ∃ ds, isSeq d ds ∧ k (.int ds.length)) (hg : Gl X "len" := by rfl)
    (hs : starEach [e] X.env = (false, eval e X.env) :: starEach [] X.env := by rfl) : DE X (.Call (.Name "len" p) [e] [] pos) δ k := fun σ H W ok R Q q =>
  wE_of (pe_callB call_len_seq hg hm PySem.boot_len (pa_cons pe_w pa_nil hs) (he := hs)) (h σ H W ok R _ fun v d W1 H1 ⟨ds, hd, hk⟩ e1 r1 => by
    obtain ⟨l, vs, h1, _, h3, h4⟩ := r1.seq e1.ok hd
    subst h1
    refine ⟨l, vs, rfl, ?_, ?_⟩
    · rcases h3 with h3 | h3
      · exact .inl (SqL.of h3)
      · exact .inr (SqT.of h3)
    · rw [h4.len]
      exact q _ _ W1 H1 hk e1 (.int _))
theorem de_tup {p : Pos} {k : D → Prop} (hm : X.mg "tuple" = none) (h : DB X e δ fun d => ∃ ds, isSeq d ds ∧ k (.tuple ds)) (hg : Gl X "tuple" := by rfl)
    (hs : starEach [e] X.env = (false, eval e X.env) :: starEach [] X.env := by rfl) : DE X (.Call (.Name "tuple" p) [e] [] pos) δ k := fun σ H W ok R Q q =>
  wE_of (pe_callTy call_tuple_of hg hm (by decide +kernel) (pa_cons pe_w pa_nil hs) (he := hs)) (h σ H W ok R _ fun v d W1 H1 ⟨ds, hd, hk⟩ e1 r1 => by
    rcases hd with hd | hd
    · subst hd
      obtain ⟨l, vs, h1, _, h3, h4⟩ := r1
      subst h1
      refine ⟨l, vs, rfl, .inl ⟨SqL.of h3, fun p hp => ?_⟩⟩
      obtain ⟨le, rp⟩ := new_tup e1.ok hp h4
      exact q _ _ W1 _ hk (e1.tr le) rp
    · subst hd
      have r2 : Rp (hid W1.O H1) v (.tuple ds) := r1
      cases r2 with
      | tup h1 h2 => exact ⟨_, _, rfl, .inr ⟨SqT.of (hid_some h1).2, q _ _ W1 H1 hk e1 (.tup h1 h2)⟩⟩)
theorem dl_of {p : Pos} {k : List D → Prop} (hm : X.mg "list" = none) (h : DB X e δ fun d => ∃ ds, isSeq d ds ∧ k ds) (hg : Gl X "list" := by rfl)
    (hs : starEach [e] X.env = (false, eval e X.env) :: starEach [] X.env := by rfl) : DL X (.Call (.Name "list" p) [e] [] pos) δ k := fun σ H W ok R Q q =>
  wE_of (pe_callTy call_list_of hg hm (by decide +kernel) (pa_cons pe_w pa_nil hs) (he := hs)) (h σ H W ok R _ fun v d W1 H1 ⟨ds, hd, hk⟩ e1 r1 => by
    obtain ⟨l, vs, h1, _, h3, h4⟩ := r1.seq e1.ok hd
    subst h1
    refine ⟨l, vs, rfl, ?_, fun p hp => ?_⟩
    · rcases h3 with h3 | h3
      · exact .inl (SqL.of h3)
      · exact .inr (SqT.of h3)
    · obtain ⟨le, g1, g2, g3, g4⟩ := new_lst e1.ok hp h4
      exact q p vs ds _ _ hk (e1.tr le) g1 (fun z => g2 (e1.sub p z)) g3 g4)
theorem de_sum {p : Pos} {k : D → Prop} (hc : X.calm = true) (hm : X.mg "sum" = none) (h : DB X e δ fun d => ∃ ns : List Int, d = .list (ns.map .int) ∧ k (.int ns.sum)) (hg : Gl X "sum" := by rfl)
    (hs : starEach [e] X.env = (false, eval e X.env) :: starEach [] X.env := by rfl) : DE X (.Call (.Name "sum" p) [e] [] pos) δ k := fun σ H W ok R Q q =>
  wE_of (pe_callB (cr_sum hc) hg hm (by decide +kernel) (pa_cons pe_w pa_nil hs) (he := hs)) (h σ H W ok R _ fun v d W1 H1 ⟨ns, hd, hk⟩ e1 r1 => by
    subst hd
    obtain ⟨l, vs, h1, _, h3, h4⟩ := r1
    have e := h4.ints
    subst h1 e
    exact ⟨l, ns, rfl, SqL.of h3, q _ _ W1 H1 hk e1 (.int _)⟩)
theorem de_all {p : Pos} {k : D → Prop} (hc : X.calm = true) (hm : X.mg "all" = none) (h : DB X e δ fun d => ∃ bs : List Bool, d = .list (bs.map .bool) ∧ k (.bool (bs.all id))) (hg : Gl X "all" := by rfl)
    (hs : starEach [e] X.env = (false, eval e X.env) :: starEach [] X.env := by rfl) : DE X (.Call (.Name "all" p) [e] [] pos) δ k := fun σ H W ok R Q q =>
  wE_of (pe_callB (cr_all hc) hg hm (by decide +kernel) (pa_cons pe_w pa_nil hs) (he := hs)) (h σ H W ok R _ fun v d W1 H1 ⟨bs, hd, hk⟩ e1 r1 => by
    subst hd
    obtain ⟨l, vs, h1, _, h3, h4⟩ := r1
    have e := h4.bools
    subst h1 e
    exact ⟨l, bs, rfl, SqL.of h3, q _ _ W1 H1 hk e1 (.bl _)⟩)
theorem de_any {p : Pos} {k : D → Prop} (hc : X.calm = true) (hm : X.mg "any" = none) (h : DB X e δ fun d => ∃ bs : List Bool, d = .list (bs.map .bool) ∧ k (.bool (bs.any id))) (hg : Gl X "any" := by rfl)
    (hs : starEach [e] X.env = (false, eval e X.env) :: starEach [] X.env := by rfl) : DE X (.Call (.Name "any" p) [e] [] pos) δ k := fun σ H W ok R Q q =>
  wE_of (pe_callB (cr_any hc) hg hm (by decide +kernel) (pa_cons pe_w pa_nil hs) (he := hs)) (h σ H W ok R _ fun v d W1 H1 ⟨bs, hd, hk⟩ e1 r1 => by
    subst hd
    obtain ⟨l, vs, h1, _, h3, h4⟩ := r1
    have e := h4.bools
    subst h1 e
    exact ⟨l, bs, rfl, SqL.of h3, q _ _ W1 H1 hk e1 (.bl _)⟩)
theorem de_intc {p : Pos} {k : D → Prop} (hm : X.mg "int" = none) (h : DE X e δ fun d => ∃ i, d = .int i ∧ k (.int i)) (hg : Gl X "int" := by rfl)
    (hs : starEach [e] X.env = (false, eval e X.env) :: starEach [] X.env := by rfl) : DE X (.Call (.Name "int" p) [e] [] pos) δ k := fun σ H W ok R Q q =>
  wE_of (pe_callTy call_int1 hg hm (by decide +kernel) (pa_cons pe_w pa_nil hs) (he := hs)) (h σ H W ok R _ fun v d W1 H1 ⟨i, hd, hk⟩ e1 r1 => by
    subst hd; cases r1
    exact .inl ⟨i, rfl, q _ _ W1 H1 hk e1 (.int _)⟩)
theorem de_min {p : Pos} {k : D → Prop} (hc : X.calm = true) (hm : X.mg "min" = none) (h : DE X a δ fun d => ∃ i, d = .int i ∧ DE X b δ fun d => ∃ j, d = .int j ∧ k (.int (if j < i then j else i))) (hg : Gl X "min" := by rfl)
    (hs : starEach [a, b] X.env = (false, eval a X.env) :: starEach [b] X.env := by rfl) (hs2 : starEach [b] X.env = (false, eval b X.env) :: starEach [] X.env := by rfl) : DE X (.Call (.Name "min" p) [a, b] [] pos) δ k := fun σ H W ok R Q q =>
  wE_of (pe_callB (call_min2 hc) hg hm (by decide +kernel) (pa_cons pe_w (pa_cons pe_w pa_nil hs2) hs) (by decide) (by decide) hs (by rw [hs2]; rfl)) (h σ H W ok R _ fun v d W1 H1 ⟨i, hd, hb⟩ e1 r1 => by
    subst hd; cases r1
    refine hb σ H1 W1 e1.ok (R.le e1) _ fun v2 d2 W2 H2 ⟨j, ej, hk⟩ e2 r2 => ?_
    subst ej; cases r2
    exact ⟨i, j, rfl, q _ _ W2 H2 hk (e1.tr e2) (.int _)⟩)
/-- isinstance with a built-in class -/
def tyD : D → Option String
  | .none => some "NoneType"
  | .bool _ => some "bool"
  | .int _ => some "int"
  | .str _ => some "str"
  | .list _ => some "list"
  | .tuple _ => some "tuple"
  | .dict _ => Option.none
theorem ty_of {K : PySem.W.Frag} {W : Wd} {H : Hp} {v : V} {d : D} {t : String} (ht : tyD d = some t) (r : RepB W H v d) : TyX K H v (.type t) := by
  cases d with
  | list ds =>
    cases ht
    obtain ⟨l, vs, h1, _, h3, _⟩ := r
    subst h1
    exact .base (.lst h3)
  | none => cases ht; cases (show Rp _ v .none from r); exact .base .non
  | bool b => cases ht; cases (show Rp _ v (.bool b) from r); exact .base (.bl b)
  | int b => cases ht; cases (show Rp _ v (.int b) from r); exact .base (.int b)
  | str b => cases ht; cases (show Rp _ v (.str b) from r); exact .base (.str b)
  | tuple b =>
    cases ht
    cases (show Rp _ v (.tuple b) from r) with
    | tup h1 h2 => exact .base (.tup (hid_some h1).2)
  | dict b => cases ht
theorem de_isi {p p2 : Pos} {T : Str} {Tn : String} {k : D → Prop} (hm : X.mg "isinstance" = none) (hT : X.mg T = none) (hv : bootBuiltins T = some (.type Tn))
    (h : DB X e δ fun d => ∃ t c, tyD d = some t ∧ kitB t Tn = some c ∧ k (.bool c)) (hg : Gl X "isinstance" := by rfl) (hg2 : Gl X T := by rfl) (hn : T ≠ "__name__" := by decide) (hx : (T == ("__debug__" : Str)) = false := by decide)
    (hs : starEach [e, .Name T p2] X.env = (false, eval e X.env) :: starEach [.Name T p2] X.env := by rfl) : DE X (.Call (.Name "isinstance" p) [e, .Name T p2] [] pos) δ k := fun σ H W ok R Q q =>
  wE_of (pe_callB call_isi hg hm (by decide +kernel) (pa_cons pe_w (pa_cons (pe_bltn (v := .ty Tn) hg2 hT hv rfl hn hx) pa_nil) hs) (by decide) (by decide) hs) (h σ H W ok R _ fun v d W1 H1 ⟨t, c, ht, hc, hk⟩ e1 r1 =>
    ⟨v, .ty Tn, .type t, .type Tn, c, rfl, .ty Tn, ty_of ht r1, kit_ty hc, q _ _ W1 H1 hk e1 (.bl c)⟩)

/-! ### subscripts -/
theorem de_ix {k : D → Prop} (h : DB X a δ fun x => ∃ ds, isSeq x ds ∧ DE X b δ fun y => ∃ (i : Int) (d : D), y = .int i ∧ atI ds i = some d ∧ k d) (hs : PlainIx b := by exact fun _ _ => rfl) : DE X (.Subscript a b pos) δ k := fun σ H W ok R Q q =>
  wE_of (pe_ix ix_seq pe_w pe_w hs) (h σ H W ok R _ fun v d W1 H1 ⟨ds, hd, hb⟩ e1 r1 => by
    refine hb σ H1 W1 e1.ok (R.le e1) _ fun v2 d2 W2 H2 ⟨i, d3, ei, hi, hk⟩ e2 r2 => ?_
    subst ei; cases r2
    obtain ⟨l, vs, h1, _, h3, h4⟩ := (r1.le e2).seq e2.ok hd
    subst h1
    obtain ⟨j, j1, j2, j3, j4, j5⟩ := atI_get hi
    obtain ⟨u, hu, ru⟩ := h4.get j2
    have hiv : atI vs i = some u := by
      unfold atI at hi ⊢
      rw [h4.len]
      cases e : ixN ds.length i with
      | none => rw [e] at hi; cases hi
      | some m =>
        rw [e] at hi
        have e4 := (ixN_seq e).1
        rw [j1] at e4
        cases e4
        exact hu
    have qq := q u d3 W2 H2 hk (e1.tr e2) ru
    rcases h3 with h3 | h3
    · exact .inl ⟨l, vs, i, u, rfl, rfl, SqL.of h3, hiv, qq⟩
    · exact .inr (.inl ⟨l, vs, i, u, rfl, rfl, SqT.of h3, hiv, qq⟩))
theorem atI_ix {α : Type} {xs : List α} {i : Int} {n : Nat} {v : α} (e : i = (n : Int)) (h : xs[n]? = some v) : atI xs i = some v := by rw [e]; exact atI_nat h
/-- a slice of a tuple, a list -/
def DO (X : Cx) (o : Option Expr) (δ : DS) (k : Option Int → Prop) : Prop := match o with
  | none => k none
  | some e => DE X e δ fun d => ∃ i, d = .int i ∧ k (some i)
def wO (X : Cx) (o : Option Expr) : TO := match o with
  | none => tNoPart
  | some e => tPart (wE X e)
theorem po_w {o : Option Expr} : PO X o (wO X o) := by
  cases o with
  | none => exact po_none
  | some e => exact po_some pe_w
theorem do_run {o : Option Expr} {k : Option Int → Prop} (h : DO X o δ k) {σ : L2.St} {H : Hp} {W : Wd} (ok : WOk W H) (R : RepS W H σ δ) (Q : Option Int → Hp → Prop) (q : ∀ i W' H', k i → Le W H W' H' → Q i H') : wO X o σ H Q := by
  cases o with
  | none => exact q none W H h (.rfl' ok)
  | some e => exact h σ H W ok R _ fun v d W1 H1 ⟨i, e, hk⟩ e1 r1 => by subst e; cases r1; exact ⟨i, rfl, q (some i) W1 H1 hk e1⟩
def cutD (xs : List D) (lo hi : Option Int) : List D := (xs.drop (HT.sIx xs.length 0 lo)).take (HT.sIx xs.length xs.length hi - HT.sIx xs.length 0 lo)
theorem cut_rep {H : Hp} {vs : List V} {ds : List D} (r : Rps H vs ds) (lo hi : Option Int) : Rps H (cutV vs lo hi) (cutD ds lo hi) := by
  unfold cutV cutD
  rw [r.len]
  exact (r.drop _).take _
theorem cut_len {H : Hp} {vs : List V} {ds : List D} (r : Rps H vs ds) (lo hi : Option Int) (h1 : HT.sIx vs.length 0 lo = 0) (h2 : HT.sIx vs.length vs.length hi = vs.length) : cutD ds lo hi = ds := by
  unfold cutD
  rw [← r.len, h1, h2, r.len]
  simp
theorem de_sliceT {lo hi : Option Expr} {p2 : Pos} {k : D → Prop} (h : DE X a δ fun x => ∃ ds, x = .tuple ds ∧ DO X lo δ fun l => DO X hi δ fun u => k (.tuple (cutD ds l u))) : DE X (.Subscript a (.Slice lo hi none p2) pos) δ k := fun σ H W ok R Q q =>
  wE_of (pe_slice sl_tupA pe_w po_w po_w) (h σ H W ok R _ fun v d W1 H1 ⟨ds, hd, hb⟩ e1 r1 => by
    subst hd
    refine do_run hb e1.ok (R.le e1) _ fun l W2 H2 hk2 e2 => do_run hk2 e2.ok (R.le (e1.tr e2)) _ fun u W3 H3 hk e3 => ?_
    have r3 := r1.mono (e2.tr e3).hid
    cases r3 with
    | @tup ad vs _ h1 h2 =>
      refine ⟨ad, vs, rfl, SqT.of (hid_some h1).2, fun ⟨z1, z2⟩ => ?_, fun _ p hp => ?_⟩
      · have e := cut_len h2 l u z1 z2
        rw [e] at hk
        exact q _ _ W3 H3 hk ((e1.tr e2).tr e3) (.tup h1 h2)
      · obtain ⟨le, rp⟩ := new_tup e3.ok hp (cut_rep h2 l u)
        exact q _ _ W3 _ hk (((e1.tr e2).tr e3).tr le) rp)
theorem dl_slice {lo hi : Option Expr} {p2 : Pos} {k : List D → Prop} (h : DB X a δ fun x => ∃ ds, x = .list ds ∧ DO X lo δ fun l => DO X hi δ fun u => k (cutD ds l u)) : DL X (.Subscript a (.Slice lo hi none p2) pos) δ k := fun σ H W ok R Q q =>
  wE_of (pe_slice sl_list pe_w po_w po_w) (h σ H W ok R _ fun v d W1 H1 ⟨ds, hd, hb⟩ e1 r1 => by
    subst hd
    refine do_run hb e1.ok (R.le e1) _ fun l W2 H2 hk2 e2 => do_run hk2 e2.ok (R.le (e1.tr e2)) _ fun u W3 H3 hk e3 => ?_
    obtain ⟨ad, vs, h1, _, h3, h4⟩ := r1.le (e2.tr e3)
    subst h1
    refine ⟨ad, vs, rfl, SqL.of h3, fun p hp => ?_⟩
    obtain ⟨le, g1, g2, g3, g4⟩ := new_lst e3.ok hp (cut_rep h4 l u)
    exact q p _ _ _ _ hk (((e1.tr e2).tr e3).tr le) g1 (fun z => g2 (e3.sub p (e2.sub p (e1.sub p z)))) g3 g4)
/-- tuples, lists put together; a tuple some times -/
theorem de_catT {k : D → Prop} (h : DE X a δ fun x => ∃ ds, x = .tuple ds ∧ DE X b δ fun y => ∃ es, y = .tuple es ∧ ds.length + es.length ≤ 100000 ∧ k (.tuple (ds ++ es))) : DE X (.BinOp a .Add b pos) δ k := fun σ H W ok R Q q =>
  wE_of (pe_op op_catA pe_w pe_w) (h σ H W ok R _ fun v d W1 H1 ⟨ds, hd, hb⟩ e1 r1 => by
    subst hd
    refine hb σ H1 W1 e1.ok (R.le e1) _ fun v2 d2 W2 H2 ⟨es, he, hl, hk⟩ e2 r2 => ?_
    subst he
    have r1' := r1.mono e2.hid
    cases r1' with
    | @tup p vs _ h1 h2 =>
      cases r2 with
      | @tup p2 us _ g1 g2 =>
        refine ⟨p, p2, vs, us, rfl, rfl, SqT.of (hid_some h1).2, SqT.of (hid_some g1).2, small_line (by rw [h2.len, g2.len]; exact hl), fun z => ?_, fun _ z => ?_, fun _ _ q2 hp => ?_⟩
        · subst z
          cases h2
          exact q _ _ W2 H2 hk (e1.tr e2) (.tup g1 g2)
        · subst z
          cases g2
          rw [List.append_nil] at hk
          exact q _ _ W2 H2 hk (e1.tr e2) (.tup h1 h2)
        · obtain ⟨le, rp⟩ := new_tup e2.ok hp (h2.app g2)
          exact q _ _ W2 _ hk ((e1.tr e2).tr le) rp)
theorem dl_cat {k : List D → Prop} (h : DB X a δ fun x => ∃ ds, x = .list ds ∧ DB X b δ fun y => ∃ es, y = .list es ∧ ds.length + es.length ≤ 100000 ∧ k (ds ++ es)) : DL X (.BinOp a .Add b pos) δ k := fun σ H W ok R Q q =>
  wE_of (pe_op op_cat pe_w pe_w) (h σ H W ok R _ fun v d W1 H1 ⟨ds, hd, hb⟩ e1 r1 => by
    subst hd
    refine hb σ H1 W1 e1.ok (R.le e1) _ fun v2 d2 W2 H2 ⟨es, he, hl, hk⟩ e2 r2 => ?_
    subst he
    obtain ⟨p, vs, h1, _, h3, h4⟩ := r1.le e2
    obtain ⟨p2, us, g1, _, g3, g4⟩ := r2
    subst h1 g1
    refine ⟨p, p2, vs, us, rfl, rfl, h3, g3, small_line (by rw [h4.len, g4.len]; exact hl), fun q2 hp => ?_⟩
    obtain ⟨le, f1, f2, f3, f4⟩ := new_lst e2.ok hp (h4.app g4)
    exact q q2 _ _ _ _ hk ((e1.tr e2).tr le) f1 (fun z => f2 (e2.sub _ (e1.sub _ z))) f3 f4)
/-- a dict by whole numbers -/
theorem tab_val {H : Hp} {ws : List (Key × V)} {kvs : List (Int × D)} (r : TabR H ws kvs) (i : Int) : match (kvs.find? fun p => decide (p.1 = i)).map (·.2) with
    | some d => ∃ v, valV ws (Sum.inl i) = some v ∧ Rp H v d
    | none => valV ws (Sum.inl i) = none := by
  obtain ⟨h1, h2⟩ := r
  induction ws generalizing kvs with
  | nil =>
    cases kvs with
    | nil => rfl
    | cons p r => cases h1
  | cons w ws ih =>
    cases kvs with
    | nil => cases h1
    | cons p r =>
      rw [List.map_cons, List.map_cons] at h1 h2
      obtain ⟨e1, e2⟩ := List.cons.inj h1
      cases h2 with
      | cons r1 r2 =>
        by_cases e : p.1 = i
        · rw [List.find?_cons, decide_eq_true e]
          refine ⟨w.2, ?_, r1⟩
          exact valV_pos (by rw [e1, e])
        · rw [List.find?_cons, decide_eq_false e]
          rw [valV_neg (by rw [e1]; exact fun z => e (Sum.inl.inj z))]
          exact ih e2 r2
def lookI (kvs : List (Int × D)) (i : Int) : Option D := (kvs.find? fun p => decide (p.1 = i)).map (·.2)
theorem de_tab (n : Nat) (hu : X.A.units + 1 < cLine) {x : Str} {p : Pos} {kvs : List (Int × D)} {k : D → Prop} (hd : δ[n]? = some (some (.tab kvs))) (h : DE X b δ fun y => ∃ (i : Int) (d : D), y = .int i ∧ lookI kvs i = some d ∧ k d)
    (hs : NoSl b := by exact fun _ _ => rfl) (hN : X.N[n]? = some x := by rfl) (hv : Vis X.env.scope x := by first | exact Or.inl rfl | exact Or.inr (Or.inl rfl) | exact Or.inr (Or.inr rfl))
    (hx : (x == ("__debug__" : Str)) = false := by decide) (hc : (x == ("__classdict__" : Str)) = false := by decide) : DE X (.Subscript (.Name x p) b pos) δ k := fun σ H W ok R Q q => by
  obtain ⟨v, h1, ad, ws, h2, h3, h4⟩ := R.at_ n _ hd
  subst h2
  refine wE_of (pe_dget hu (pe_var hN hv hx hc) pe_w hs) ⟨_, h1, h σ H W ok R _ fun v2 d2 W2 H2 ⟨i, d, ei, hi, hk⟩ e2 r2 => ?_⟩
  subst ei; cases r2
  have t := tab_val (show TabR (hid W2.O H2) ws kvs from ⟨h4.1, h4.2.mono e2.hid⟩) i
  unfold lookI at hi
  rw [hi] at t
  obtain ⟨u, hu1, hu2⟩ := t
  refine ⟨ad, u, rfl, ?_, q u d W2 H2 hk e2 hu2⟩
  have g := DGet.k (k := Sum.inl i) (hid_some (e2.hid _ _ h3)).2
  rw [hu1] at g
  exact g
theorem dc_inTab (n : Nat) (hu : X.A.units + 1 < cLine) {x : Str} {p : Pos} {kvs : List (Int × D)} {k : Bool → Prop} (hd : δ[n]? = some (some (.tab kvs))) (h : DE X a δ fun y => ∃ i : Int, y = .int i ∧ k (lookI kvs i).isSome)
    (hN : X.N[n]? = some x := by rfl) (hv : Vis X.env.scope x := by first | exact Or.inl rfl | exact Or.inr (Or.inl rfl) | exact Or.inr (Or.inr rfl))
    (hx : (x == ("__debug__" : Str)) = false := by decide) (hc : (x == ("__classdict__" : Str)) = false := by decide) : DC X .In a (.Name x p) δ k :=
  ⟨_, pc_din hu pe_w (pe_var hN hv hx hc), fun σ H W ok R Q q => h σ H W ok R _ fun v d W1 H1 ⟨i, ei, hk⟩ e1 r1 => by
    subst ei; cases r1
    obtain ⟨v2, h1, ad, ws, h2, h3, h4⟩ := (R.le e1).at_ n _ hd
    subst h2
    refine ⟨_, h1, ad, valV ws (Sum.inl i), rfl, DGet.k (k := Sum.inl i) (hid_some h3).2, ?_⟩
    have t := tab_val h4 i
    have e : (valV ws (Sum.inl i)).isSome = (lookI kvs i).isSome := by
      unfold lookI
      cases z : (kvs.find? fun p => decide (p.1 = i)).map (·.2) with
      | none => rw [z] at t; have t2 : valV ws (Sum.inl i) = none := t; rw [t2]; rfl
      | some d => rw [z] at t; obtain ⟨u, t2, _⟩ := t; rw [t2]; rfl
    rw [e]
    exact q _ W1 H1 hk e1⟩
end

end Dt

/-! Dat4: statements over data; a def's body. -/
namespace Dt
open PySem PySem.Spec L2

def wS (X : Cx) (st : Stmt) : TS := fun D σ H => ∀ (pins : List (Addr × Obj)) (s : Shared), Inv X pins σ H s → wpAny (model X.prog X.w) X.A (exec st X.env) (SP X pins D) X.xe s
def wSs (X : Cx) (st : List Stmt) : TS := fun D σ H => ∀ (pins : List (Addr × Obj)) (s : Shared), Inv X pins σ H s → wpAny (model X.prog X.w) X.A (execs st X.env) (SP X pins D) X.xe s
structure DEnd where
  nx : DS → Prop
  rt : D → Prop
  bk : DS → Prop := fun _ => False
  ct : DS → Prop := fun _ => False
/-- where a statement begins: the def's entry (W0, H0), what is not to be lost (G), the state -/
structure At (W0 : Wd) (H0 G : Hp) (W : Wd) (H : Hp) (σ : L2.St) (δ : DS) : Prop where
  hb : W0.O = W0.B
  le : Le W0 H0 W H
  g : Sub G (hid W.O H)
  r : RepS W H σ δ
/-- the ends over heaps say what the ends over data say -/
structure EndOk (W0 : Wd) (H0 G : Hp) (E : DEnd) (Z : Ends) : Prop where
  nx : ∀ δ σ W H, E.nx δ → At W0 H0 G W H σ δ → Z.nx σ H
  rt : ∀ v d W H, E.rt d → Le W0 H0 W H → Rp (hid W0.B H) v d → Z.rt v H
  bk : ∀ δ σ W H, E.bk δ → At W0 H0 G W H σ δ → Z.bk σ H
  ct : ∀ δ σ W H, E.ct δ → At W0 H0 G W H σ δ → Z.ct σ H
def DSt (X : Cx) (st : Stmt) (δ : DS) (E : DEnd) : Prop := ∀ (W0 : Wd) (H0 G : Hp) (W : Wd) (H : Hp) (σ : L2.St), At W0 H0 G W H σ δ → ∀ Z, EndOk W0 H0 G E Z → wS X st Z σ H
def DSs (X : Cx) (st : List Stmt) (δ : DS) (E : DEnd) : Prop := ∀ (W0 : Wd) (H0 G : Hp) (W : Wd) (H : Hp) (σ : L2.St), At W0 H0 G W H σ δ → ∀ Z, EndOk W0 H0 G E Z → wSs X st Z σ H
theorem At.go {W0 : Wd} {H0 G : Hp} {W W' : Wd} {H H' : Hp} {σ : L2.St} {δ : DS} (a : At W0 H0 G W H σ δ) (l : Le W H W' H') : At W0 H0 G W' H' σ δ := ⟨a.hb, a.le.tr l, a.g.tr l.hid, a.r.le l⟩
theorem At.set {W0 : Wd} {H0 G : Hp} {W W' : Wd} {H H' : Hp} {σ : L2.St} {δ : DS} {v : V} {s : S} (a : At W0 H0 G W H σ δ) (l : Le W H W' H') (r : RepV W' H' v s) (f : FreshV W v s) (i : Nat) : At W0 H0 G W' H' (σ.set i (some v)) (δ.set i (some s)) :=
  ⟨a.hb, a.le.tr l, a.g.tr l.hid, a.r.set l r f i⟩
/-- a list of one's own is written -/
theorem At.write {W0 : Wd} {H0 G : Hp} {W : Wd} {H : Hp} {σ : L2.St} {δ : DS} {i : Nat} {l : Addr} {vs' : List V} {ds ds' : List D} (a : At W0 H0 G W H σ δ) (hd : δ[i]? = some (some (.own ds))) (hs : σ[i]? = some (some (.ref l))) (h1 : l ∈ W.O) (h2 : l ∉ W.B)
    (r : Rps (hid W.O H) vs' ds') : At W0 H0 G W (upd H l (.lst vs')) σ (δ.set i (some (.own ds'))) := by
  have hl0 : H0 l = none := by
    rcases a.le.new l h1 with z | z
    · rw [a.hb, ← a.le.b] at z; exact absurd z h2
    · exact z
  refine ⟨a.hb, ⟨a.le.b, a.le.m, a.le.sub, a.le.new, fun b o hb e => ?_, a.le.ok0, a.le.ok.write h1 h2⟩, by rw [hid_upd h1]; exact a.g, ⟨by simpa using a.r.len, fun j s hj => ?_, fun j k x y v hjk hj hk hv => ?_⟩⟩
  · rw [upd_ne (ne_of_none e hl0)]; exact a.le.keep b o hb e
  · by_cases e : i = j
    · subst e
      rw [List.getElem?_set_self (List.getElem?_eq_some_iff.mp hd).1] at hj
      cases hj
      exact ⟨_, hs, l, vs', rfl, h1, h2, upd_same, by rw [hid_upd h1]; exact r⟩
    · rw [List.getElem?_set_ne e] at hj
      obtain ⟨v, g1, g2⟩ := a.r.at_ j s hj
      refine ⟨v, g1, ?_⟩
      cases s with
      | sh d =>
        show Rp (hid W.O (upd H l (.lst vs'))) v d
        rw [hid_upd h1]; exact g2
      | own es =>
        obtain ⟨l2, us, k1, k2, k3, k4, k5⟩ := g2
        have hne : l2 ≠ l := fun z => a.r.sep i j ds es (.ref l) e hd hj hs (by rw [g1, k1, z])
        exact ⟨l2, us, k1, k2, k3, by rw [upd_ne hne]; exact k4, by rw [hid_upd h1]; exact k5⟩
      | tab kvs =>
        obtain ⟨ad, ws, k1, k2, k3⟩ := g2
        exact ⟨ad, ws, k1, by rw [hid_upd h1]; exact k2, by rw [hid_upd h1]; exact k3⟩
      | fee => exact g2
  · have old : ∀ (m : Nat) (x : List D), (δ.set i (some (.own ds')))[m]? = some (some (.own x)) → ∃ x', δ[m]? = some (some (.own x')) := fun m x hm => by
      by_cases e : i = m
      · subst e; exact ⟨ds, hd⟩
      · rw [List.getElem?_set_ne e] at hm; exact ⟨x, hm⟩
    obtain ⟨x', hx⟩ := old j x hj
    obtain ⟨y', hy⟩ := old k y hk
    exact a.r.sep j k x' y' v hjk hx hy hv
section
variable {X : Cx} {e a b c : Expr} {es : List Expr} {δ : DS} {pos : Pos} {st : Stmt} {sts : List Stmt} {E : DEnd} {σ : L2.St} {H : Hp} {Z : Ends}
theorem ps_w : PS X st (wS X st) := ⟨fun pins s _ _ _ I h => h pins s I⟩
theorem pss_w : PSs X sts (wSs X sts) := ⟨fun pins s _ _ _ I h => h pins s I⟩
theorem wS_of {t : TS} (h : PS X st t) (q : t Z σ H) : wS X st Z σ H := fun pins s I => h.run pins s σ H Z I q
theorem wSs_of {t : TS} (h : PSs X sts t) (q : t Z σ H) : wSs X sts Z σ H := fun pins s I => h.run pins s σ H Z I q
theorem ds_nil (h : E.nx δ) : DSs X [] δ E := fun W0 H0 G W H σ a Z z => wSs_of pss_nil (z.nx δ σ W H h a)
theorem ds_cons (h : DSt X st δ { E with nx := fun δ' => DSs X sts δ' E }) : DSs X (st :: sts) δ E := fun W0 H0 G W H σ a Z z =>
  wSs_of (pss_cons ps_w pss_w) (h W0 H0 G W H σ a _ ⟨fun δ' σ' W' H' hn a' => hn W0 H0 G W' H' σ' a' Z z, z.rt, z.bk, z.ct⟩)
theorem ds_one (h : DSt X st δ E) : DSs X [st] δ E := fun W0 H0 G W H σ a Z z => wSs_of (pss_one ps_w) (h W0 H0 G W H σ a Z z)
theorem ds_ret (h : DB X e δ E.rt) : DSt X (.Return (some e) pos) δ E := fun W0 H0 G W H σ a Z z =>
  wS_of (ps_ret pe_w) (h σ H W a.le.ok a.r _ fun v d W' H' hk le' r => z.rt v d W' H' hk (a.le.tr le') (by
    have sb : Sub (hid W'.O H') (hid W0.B H') := hid_less fun x hx => (a.le.tr le').sub x (by rw [a.hb]; exact hx)
    have eB : W'.B = W0.B := (a.le.tr le').b
    cases d with
    | list ds =>
      obtain ⟨l, vs, h1, h2, h3, h4⟩ := r
      subst h1
      exact .lst (hid_of (by rw [← eB]; exact h2) h3) (h4.mono sb)
    | none => exact Rp.mono sb r
    | bool _ => exact Rp.mono sb r
    | int _ => exact Rp.mono sb r
    | str _ => exact Rp.mono sb r
    | tuple _ => exact Rp.mono sb r
    | dict _ => exact Rp.mono sb r))
theorem ds_retD (h : DE X e δ E.rt) : DSt X (.Return (some e) pos) δ E := ds_ret (db_of h)
theorem ds_if {p q : List Stmt} (h : DT X c δ fun t => if t = true then DSs X p δ E else DSs X q δ E) : DSt X (.If c p q pos) δ E := fun W0 H0 G W H σ a Z z =>
  wS_of (ps_if pt_w pss_w pss_w) (h σ H W a.le.ok a.r _ fun t W' H' hk le' => by
    cases t with
    | true => exact hk W0 H0 G W' H' σ (a.go le') Z z
    | false => exact hk W0 H0 G W' H' σ (a.go le') Z z)
theorem ds_pass (h : E.nx δ) : DSt X (.Pass pos) δ E := fun W0 H0 G W H σ a Z z => wS_of ps_pass (z.nx δ σ W H h a)
/-- name = e -/
theorem ds_set (i : Nat) {x : Str} {px : Pos} (nd : X.N.Nodup) (h : DV X e δ fun s => E.nx (δ.set i (some s))) (hi : X.N[i]? = some x := by rfl) (hx : Loc X.env.scope x := by first | exact Or.inl rfl | exact Or.inr rfl)
    (hs : swapsWith e (some (.Name x px)) pos.line X.env = pure false := by rfl) (hf : X.fn x = true ∨ X.env.scope.names.lookup x = some .local := by first | exact .inl rfl | exact .inr rfl) : DSt X (.Assign [.Name x px] e pos) δ E := fun W0 H0 G W H σ a Z z =>
  wS_of (ps_set (i := i) nd hi hx pe_w hs hf) (h σ H W a.le.ok a.r _ fun v s W' H' hk le' r f => z.nx _ _ W' H' hk (a.set le' r f i))
/-- a, b = x, y: two plain locals -/
theorem ds_par (i j : Nat) {x y : Str} {px py pt : Pos} {kt k2 pt2} (hc : X.calm = true) (nd : X.N.Nodup) (h : DV X a δ fun s => DV X b δ fun t => E.nx ((δ.set i (some s)).set j (some t)))
    (hi : X.N[i]? = some x := by rfl) (hj : X.N[j]? = some y := by rfl) (hij : i ≠ j := by decide) (hx : X.env.scope.names.lookup x = some .local := by rfl) (hy : X.env.scope.names.lookup y = some .local := by rfl)
    (hw : swappedStores [.Tuple [.Name x px, .Name y py] kt pt] (.Tuple [a, b] k2 pt2) X.env = pure (some [x, y]) := by rfl)
    (hs : swapsWithSole [.Tuple [.Name x px, .Name y py] kt pt] (.Tuple [a, b] k2 pt2) pos.line X.env = pure false := by rfl)
    (hs1 : starEach [a, b] X.env = (false, eval a X.env) :: starEach [b] X.env := by rfl) (hs2 : starEach [b] X.env = (false, eval b X.env) :: starEach [] X.env := by rfl) : DSt X (.Assign [.Tuple [.Name x px, .Name y py] kt pt] (.Tuple [a, b] k2 pt2) pos) δ E := fun W0 H0 G W H σ at_ Z z =>
  wS_of (ps_par hc nd hi hj hij hx hy (pa_cons pe_w (pa_cons pe_w pa_nil hs2) hs1) hw hs) (h σ H W at_.le.ok at_.r _ fun v s W1 H1 hb e1 r1 f1 => hb σ H1 W1 e1.ok (at_.r.le e1) _ fun u t W2 H2 hk e2 r2 f2 =>
    ⟨v, u, rfl, z.nx _ _ W2 H2 hk ((at_.set e1 r1 f1 i).set e2 r2 f2 j)⟩)
/-- a, b = x, y by way of a tuple -/
theorem ds_pair (i j : Nat) {x y : Str} {px py pt : Pos} {kt k2 pt2} (hc : X.calm = true) (nd : X.N.Nodup) (h : DV X a δ fun s => DV X b δ fun t => E.nx ((δ.set i (some s)).set j (some t)))
    (hi : X.N[i]? = some x := by rfl) (hj : X.N[j]? = some y := by rfl) (hx : Loc X.env.scope x := by first | exact Or.inl rfl | exact Or.inr rfl) (hy : Loc X.env.scope y := by first | exact Or.inl rfl | exact Or.inr rfl)
    (hf1 : X.fn x = true ∨ X.env.scope.names.lookup x = some .local := by first | exact .inl rfl | exact .inr rfl) (hf2 : X.fn y = true ∨ X.env.scope.names.lookup y = some .local := by first | exact .inl rfl | exact .inr rfl)
    (hw : swappedStores [.Tuple [.Name x px, .Name y py] kt pt] (.Tuple [a, b] k2 pt2) X.env = pure none := by rfl)
    (hs : swapsWithSole [.Tuple [.Name x px, .Name y py] kt pt] (.Tuple [a, b] k2 pt2) pos.line X.env = pure false := by rfl)
    (hs1 : starEach [a, b] X.env = (false, eval a X.env) :: starEach [b] X.env := by rfl) (hs2 : starEach [b] X.env = (false, eval b X.env) :: starEach [] X.env := by rfl) : DSt X (.Assign [.Tuple [.Name x px, .Name y py] kt pt] (.Tuple [a, b] k2 pt2) pos) δ E := fun W0 H0 G W H σ at_ Z z =>
  wS_of (ps_asg (pe_tup (pa_cons pe_w (pa_cons pe_w pa_nil hs2) hs1)) (pg_tup (n := 2) hc (pgs_cons (pg_name (i := i) nd hi hx hf1) (pgs_cons (pg_name (i := j) nd hj hy hf2) pgs_nil))) hs hw)
    (h σ H W at_.le.ok at_.r _ fun v s W1 H1 hb e1 r1 f1 => hb σ H1 W1 e1.ok (at_.r.le e1) _ fun u t W2 H2 hk e2 r2 f2 =>
      ⟨small_line (by show 2 ≤ 100000; decide), fun p hp => ⟨p, [v, u], rfl, SqT.of upd_same, rfl, v, [u], rfl, u, [], rfl, rfl, z.nx _ _ W2 _ hk (((at_.set e1 r1 f1 i).set e2 r2 f2 j).go (.put e2.ok hp))⟩⟩)
/-- a, b = e; a, b, c = e: e a tuple of so many -/
theorem ds_unp2 (i j : Nat) {x y : Str} {px py pt : Pos} {kt} (hc : X.calm = true) (nd : X.N.Nodup) (h : DE X e δ fun d => ∃ d1 d2, d = .tuple [d1, d2] ∧ E.nx ((δ.set i (some (.sh d1))).set j (some (.sh d2))))
    (hi : X.N[i]? = some x := by rfl) (hj : X.N[j]? = some y := by rfl) (hx : Loc X.env.scope x := by first | exact Or.inl rfl | exact Or.inr rfl) (hy : Loc X.env.scope y := by first | exact Or.inl rfl | exact Or.inr rfl)
    (hf1 : X.fn x = true ∨ X.env.scope.names.lookup x = some .local := by first | exact .inl rfl | exact .inr rfl) (hf2 : X.fn y = true ∨ X.env.scope.names.lookup y = some .local := by first | exact .inl rfl | exact .inr rfl)
    (hw : swappedStores [.Tuple [.Name x px, .Name y py] kt pt] e X.env = pure none := by rfl)
    (hs : swapsWithSole [.Tuple [.Name x px, .Name y py] kt pt] e pos.line X.env = pure false := by rfl) : DSt X (.Assign [.Tuple [.Name x px, .Name y py] kt pt] e pos) δ E := fun W0 H0 G W H σ at_ Z z =>
  wS_of (ps_asg pe_w (pg_tup (n := 2) hc (pgs_cons (pg_name (i := i) nd hi hx hf1) (pgs_cons (pg_name (i := j) nd hj hy hf2) pgs_nil))) hs hw)
    (h σ H W at_.le.ok at_.r _ fun v d W1 H1 ⟨d1, d2, ed, hk⟩ e1 r1 => by
      subst ed
      cases r1 with
      | @tup ad vs _ g1 g2 =>
        cases g2 with
        | cons q1 g3 =>
          cases g3 with
          | cons q2 g4 =>
            cases g4
            exact ⟨ad, _, rfl, SqT.of (hid_some g1).2, rfl, _, _, rfl, _, [], rfl, rfl, z.nx _ _ W1 H1 hk ((at_.set (s := .sh d1) e1 q1 trivial i).set (s := .sh d2) (.rfl' e1.ok) q2 trivial j)⟩)
theorem ds_unp3 (i j l : Nat) {x y u : Str} {px py pu pt : Pos} {kt} (hc : X.calm = true) (nd : X.N.Nodup) (h : DE X e δ fun d => ∃ d1 d2 d3, d = .tuple [d1, d2, d3] ∧ E.nx (((δ.set i (some (.sh d1))).set j (some (.sh d2))).set l (some (.sh d3))))
    (hi : X.N[i]? = some x := by rfl) (hj : X.N[j]? = some y := by rfl) (hl : X.N[l]? = some u := by rfl) (hx : Loc X.env.scope x := by first | exact Or.inl rfl | exact Or.inr rfl) (hy : Loc X.env.scope y := by first | exact Or.inl rfl | exact Or.inr rfl) (hu : Loc X.env.scope u := by first | exact Or.inl rfl | exact Or.inr rfl)
    (hf1 : X.fn x = true ∨ X.env.scope.names.lookup x = some .local := by first | exact .inl rfl | exact .inr rfl) (hf2 : X.fn y = true ∨ X.env.scope.names.lookup y = some .local := by first | exact .inl rfl | exact .inr rfl) (hf3 : X.fn u = true ∨ X.env.scope.names.lookup u = some .local := by first | exact .inl rfl | exact .inr rfl)
    (hw : swappedStores [.Tuple [.Name x px, .Name y py, .Name u pu] kt pt] e X.env = pure none := by rfl)
    (hs : swapsWithSole [.Tuple [.Name x px, .Name y py, .Name u pu] kt pt] e pos.line X.env = pure false := by rfl) : DSt X (.Assign [.Tuple [.Name x px, .Name y py, .Name u pu] kt pt] e pos) δ E := fun W0 H0 G W H σ at_ Z z =>
  wS_of (ps_asg pe_w (pg_tup (n := 3) hc (pgs_cons (pg_name (i := i) nd hi hx hf1) (pgs_cons (pg_name (i := j) nd hj hy hf2) (pgs_cons (pg_name (i := l) nd hl hu hf3) pgs_nil)))) hs hw)
    (h σ H W at_.le.ok at_.r _ fun v d W1 H1 ⟨d1, d2, d3, ed, hk⟩ e1 r1 => by
      subst ed
      cases r1 with
      | @tup ad vs _ g1 g2 =>
        cases g2 with
        | cons q1 g3 =>
          cases g3 with
          | cons q2 g4 =>
            cases g4 with
            | cons q3 g5 =>
              cases g5
              exact ⟨ad, _, rfl, SqT.of (hid_some g1).2, rfl, _, _, rfl, _, _, rfl, _, [], rfl, rfl, z.nx _ _ W1 H1 hk (((at_.set (s := .sh d1) e1 q1 trivial i).set (s := .sh d2) (.rfl' e1.ok) q2 trivial j).set (s := .sh d3) (.rfl' e1.ok) q3 trivial l)⟩)
/-- lists of one's own change -/
theorem ds_append (i : Nat) {x : Str} {p1 p2 pc : Pos} {ds : List D} (hd : δ[i]? = some (some (.own ds))) (h : DE X e δ fun d => ds.length < 100000 ∧ E.nx (δ.set i (some (.own (ds ++ [d]))))) (hN : X.N[i]? = some x := by rfl)
    (hv : Vis X.env.scope x := by first | exact Or.inl rfl | exact Or.inr (Or.inl rfl) | exact Or.inr (Or.inr rfl)) (hx : (x == ("__debug__" : Str)) = false := by decide) (hcd : (x == ("__classdict__" : Str)) = false := by decide)
    (hbase : attributeBase (.Name x p1) "append" X.env (eval (.Name x p1) X.env) = eval (.Name x p1) X.env := by rfl)
    (hfew : ((backTo pc (starEach [e] X.env)).all (fun x => !x.1) && (backToKw pc (keywordEach [] X.env)).all (fun x => x.1.isSome) && decide ([e].length + ([] : List Keyword).length + (if ([] : List Keyword).isEmpty then 0 else 1) < 30)) = true := by rfl)
    (hline : (p2.endLine == pc.line) = true := by rfl) (hs : starEach [e] X.env = (false, eval e X.env) :: starEach [] X.env := by rfl)
    (hsw : swapsWith (.Call (.Attribute (.Name x p1) "append" p2) [e] [] pc) none pos.line X.env = pure false := by rfl) : DSt X (.Expr (.Call (.Attribute (.Name x p1) "append" p2) [e] [] pc) pos) δ E := fun W0 H0 G W H σ at_ Z z => by
  obtain ⟨v, g1, l, vs, g2, g3, g4, g5, g6⟩ := at_.r.at_ i _ hd
  subst g2
  refine wS_of (ps_expr (pe_bm PySem.F.plainAttrs_list PySem.F.slot_list_append PySem.F.type_list_append mt_append (pe_var hN hv hx hcd) (pa_cons pe_w pa_nil hs) hbase hfew hline hs rfl) hsw) ⟨_, g1, .inl ⟨rfl, vs, SqL.of g5⟩, ?_⟩
  refine h σ H W at_.le.ok at_.r _ fun v2 d W1 H1 ⟨hl, hk⟩ e1 r1 => ?_
  have k4 : l ∉ W1.B := by rw [e1.b]; exact g4
  have k5 := e1.keep l _ (fun y => g4 (at_.le.ok.mb l y)) g5
  have k6 := g6.mono e1.hid
  exact ⟨l, vs, v2, rfl, rfl, k5, by rw [g6.len]; exact small_lineT hl, z.nx _ _ W1 _ hk ((at_.go e1).write hd g1 (e1.sub l g3) k4 (k6.app (.one r1)))⟩
theorem ds_extend (i : Nat) {x : Str} {p1 p2 pc : Pos} {ds : List D} (hd : δ[i]? = some (some (.own ds))) (h : DB X e δ fun d => ∃ es, d = .list es ∧ ds.length + es.length ≤ 100000 ∧ E.nx (δ.set i (some (.own (ds ++ es))))) (hN : X.N[i]? = some x := by rfl)
    (hv : Vis X.env.scope x := by first | exact Or.inl rfl | exact Or.inr (Or.inl rfl) | exact Or.inr (Or.inr rfl)) (hx : (x == ("__debug__" : Str)) = false := by decide) (hcd : (x == ("__classdict__" : Str)) = false := by decide)
    (hbase : attributeBase (.Name x p1) "extend" X.env (eval (.Name x p1) X.env) = eval (.Name x p1) X.env := by rfl)
    (hfew : ((backTo pc (starEach [e] X.env)).all (fun x => !x.1) && (backToKw pc (keywordEach [] X.env)).all (fun x => x.1.isSome) && decide ([e].length + ([] : List Keyword).length + (if ([] : List Keyword).isEmpty then 0 else 1) < 30)) = true := by rfl)
    (hline : (p2.endLine == pc.line) = true := by rfl) (hs : starEach [e] X.env = (false, eval e X.env) :: starEach [] X.env := by rfl)
    (hsw : swapsWith (.Call (.Attribute (.Name x p1) "extend" p2) [e] [] pc) none pos.line X.env = pure false := by rfl) : DSt X (.Expr (.Call (.Attribute (.Name x p1) "extend" p2) [e] [] pc) pos) δ E := fun W0 H0 G W H σ at_ Z z => by
  obtain ⟨v, g1, l, vs, g2, g3, g4, g5, g6⟩ := at_.r.at_ i _ hd
  subst g2
  refine wS_of (ps_expr (pe_bm PySem.F.plainAttrs_list PySem.F.slot_list_extend PySem.F.type_list_extend mt_extend (pe_var hN hv hx hcd) (pa_cons pe_w pa_nil hs) hbase hfew hline hs rfl) hsw) ⟨_, g1, .inl ⟨rfl, vs, SqL.of g5⟩, ?_⟩
  refine h σ H W at_.le.ok at_.r _ fun v2 d W1 H1 ⟨es, ed, hl, hk⟩ e1 r1 => ?_
  subst ed
  obtain ⟨b, us, f1, f2, f3, f4⟩ := r1
  subst f1
  have k4 : l ∉ W1.B := by rw [e1.b]; exact g4
  have k5 := e1.keep l _ (fun y => g4 (at_.le.ok.mb l y)) g5
  have k6 := g6.mono e1.hid
  exact ⟨l, b, vs, us, rfl, rfl, k5, f3, small_line (by rw [g6.len, f4.len]; exact hl), z.nx _ _ W1 _ hk ((at_.go e1).write hd g1 (e1.sub l g3) k4 (k6.app f4))⟩
/-- xs[i] = e -/
theorem ds_store (i : Nat) {x : Str} {p1 p2 : Pos} {ds : List D} (hd : δ[i]? = some (some (.own ds))) (h : DE X e δ fun d => DE X b δ fun y => ∃ (n : Int) (j : Nat), y = .int n ∧ ixN ds.length n = some j ∧ E.nx (δ.set i (some (.own (ds.set j d))))) (hN : X.N[i]? = some x := by rfl)
    (hv : Vis X.env.scope x := by first | exact Or.inl rfl | exact Or.inr (Or.inl rfl) | exact Or.inr (Or.inr rfl)) (hx : (x == ("__debug__" : Str)) = false := by decide) (hcd : (x == ("__classdict__" : Str)) = false := by decide)
    (ha : ∀ v, assign (.Subscript (.Name x p1) b p2) X.env v = (do
      let ov ← holding [v] (eval (.Name x p1) X.env)
      let iv ← holding [v, ov] (eval b X.env)
      standAt p2
      holding [v, ov, iv] (setItem ov iv v)
      release [v, ov, iv] []) := by intro _; rfl)
    (hs : swapsWithSole [.Subscript (.Name x p1) b p2] e pos.line X.env = pure false := by rfl) (hw : swappedStores [.Subscript (.Name x p1) b p2] e X.env = pure none := by rfl)
    (h1 : (assignEach [.Subscript (.Name x p1) b p2] X.env).map (·.2) = [assign (.Subscript (.Name x p1) b p2) X.env] := by rfl) : DSt X (.Assign [.Subscript (.Name x p1) b p2] e pos) δ E := fun W0 H0 G W H σ at_ Z z =>
  wS_of (ps_asg pe_w (pg_sub (pe_var hN hv hx hcd) pe_w set_list ha) hs hw h1) (h σ H W at_.le.ok at_.r _ fun v d W1 H1 hb e1 r1 => by
    obtain ⟨v0, g1, l, vs, g2, g3, g4, g5, g6⟩ := (at_.r.le e1).at_ i _ hd
    subst g2
    refine ⟨_, g1, hb σ H1 W1 e1.ok (at_.r.le e1) _ fun v2 y W2 H2 ⟨n, j, ey, hj, hk⟩ e2 r2 => ?_⟩
    subst ey; cases r2
    have k4 : l ∉ W2.B := by rw [e2.b]; exact g4
    have k5 := e2.keep l _ (fun y => g4 (e1.ok.mb l y)) g5
    have k6 := g6.mono e2.hid
    exact ⟨l, vs, n, j, rfl, rfl, k5, by rw [g6.len]; exact hj, z.nx _ _ W2 _ hk (((at_.go e1).go e2).write hd g1 (e2.sub l g3) k4 (k6.set (r1.mono e2.hid) j))⟩)
/-- while: I by a measure -/
theorem ds_while {body : List Stmt} (hp : PassesOwn (model X.prog X.w) X.A X.env X.xe) (I : Nat → DS → Prop) (m0 : Nat) (h0 : I m0 δ)
    (hs : ∀ m δ', I m δ' → DT X c δ' fun t => if t = true then DSs X body δ' { nx := fun δ'' => ∃ m', m' < m ∧ I m' δ'', rt := E.rt, bk := E.nx, ct := fun δ'' => ∃ m', m' < m ∧ I m' δ'' } else E.nx δ') : DSt X (.While c body [] pos) δ E := fun W0 H0 G W H σ at_ Z z =>
  wS_of (ps_while hp pt_w pss_w) ⟨fun m σ' H' => ∃ δ' W', I m δ' ∧ At W0 H0 G W' H' σ' δ', ⟨m0, δ, W, h0, at_⟩, fun m σ' H' ⟨δ', W', hi, a'⟩ => by
    refine hs m δ' hi σ' H' W' a'.le.ok a'.r _ fun t W1 H1 hk e1 => ?_
    cases t with
    | true =>
      refine ⟨fun σ2 H2 => ∃ m', m' < m ∧ ∃ δ'' W2, I m' δ'' ∧ At W0 H0 G W2 H2 σ2 δ'', fun σ2 H2 ⟨m', hm, h⟩ => ⟨m', hm, h⟩, ?_⟩
      exact hk W0 H0 G W1 H1 σ' (a'.go e1) _ ⟨fun δ'' σ2 W2 H2 ⟨m', hm, h⟩ a2 => ⟨m', hm, δ'', W2, h, a2⟩, z.rt, z.nx, fun δ'' σ2 W2 H2 ⟨m', hm, h⟩ a2 => ⟨m', hm, δ'', W2, h, a2⟩⟩
    | false => exact z.nx _ _ W1 H1 hk (a'.go e1)⟩
end

/-! ### a def -/
def startD (N : List Str) (ss : List S) : DS := ss.map some ++ List.replicate (N.length - ss.length) none
theorem rep_start {W : Wd} {H : Hp} {N : List Str} {vs : List V} {ss : List S} (r : RepVs W H vs ss) : RepS W H (L2.start N vs) (startD N ss) := by
  have hl := r.len
  have at_ : ∀ (i : Nat) (s : S), ss[i]? = some s → ∃ v, vs[i]? = some v ∧ RepV W H v s ∧ ∀ ds, s ≠ .own ds := by
    clear hl
    induction r with
    | nil => intro i s h; simp at h
    | cons a n b ih =>
      intro i s h
      cases i with
      | zero =>
        have e := Option.some.inj (by simpa using h)
        subst e
        exact ⟨_, rfl, a, n⟩
      | succ i =>
        obtain ⟨v, h1, h2⟩ := ih i s (by simpa using h)
        exact ⟨v, by simpa using h1, h2⟩
  have get : ∀ (i : Nat) (s : S), (startD N ss)[i]? = some (some s) → ss[i]? = some s := fun i s h => by
    unfold startD at h
    rw [List.getElem?_append] at h
    split at h
    · rw [List.getElem?_map] at h
      cases e : ss[i]? with
      | none => rw [e] at h; cases h
      | some t => rw [e] at h; cases h; rfl
    · rw [List.getElem?_replicate] at h
      split at h
      · cases h
      · cases h
  refine ⟨by unfold L2.start startD; simp [hl], fun i s h => ?_, fun i j a b v hij hi hj hv => ?_⟩
  · obtain ⟨v, h1, h2, _⟩ := at_ i s (get i s h)
    refine ⟨v, ?_, h2⟩
    unfold L2.start
    rw [List.getElem?_append_left (by rw [List.length_map]; exact (List.getElem?_eq_some_iff.mp h1).1), List.getElem?_map, h1]
    rfl
  · obtain ⟨v, _, _, n⟩ := at_ i _ (get i _ hi)
    exact absurd rfl (n a)
section
variable {P : Program} {w : World} {K : PySem.W.Frag} {mg : Str → Option Value} {base : Heap}
abbrev bodyX (P : Program) (w : World) (K : PySem.W.Frag) (mg : Str → Option Value) (base : Heap) (N : List Str) (qual : Str) (scope : Scope) (f : Addr) (cdv : Value) (A : Around) (outer : List Env) (s : Shared) (H : Hp) (E : XK) : Cx := (cxOf CX0 P w K mg base N qual scope f cdv A outer s H E).nox
/-- THE RULE: the body over data -/
theorem cal_of {x qual : Str} {params : Arguments} {body : List Stmt} {scope : Scope} {dvs : List V} {kws : List (Str × V)} {f : Addr} {fd : FuncData} {N ps : List Str} {lv : Nat} {F : FS} (Fu : FunD K x qual params body scope dvs kws f fd) (Sc : FnScope N ps scope)
    (len : ∀ ss k, F ss k → ss.length = ps.length)
    (h : ∀ (cdv : Value) (A : Around) (outer : List Env) (s : Shared) (H : Hp) (E : XK), Room lv (A.deeper (PyProof.Rows.envOfC qual scope s.heap.objs.size f cdv)) → ∀ ss k, F ss k →
      DSs (bodyX P w K mg base N qual scope f cdv A outer s H E) body (startD N ss) { nx := fun _ => k .none, rt := k }) : FnOk P w K mg base CX0 (lv + 1) f fd ps (spOf F) := by
  refine Fu.ok Sc (fun vs H Q E ⟨W, ss, k, _, _, r, hF, _⟩ => r.len.trans (len ss k hF)) fun cdv A outer s H vs Q E hr ⟨W, ss, k, ok, hb, r, hF, q⟩ => ?_
  refine ⟨_, PSs.nox pss_w, ?_⟩
  refine h cdv A outer s H E hr ss k hF W H (hid W.O H) W H _ ⟨hb, .rfl' ok, .rfl', rep_start r⟩ _ ⟨fun δ σ W' H' hk a => q _ _ W' H' hk a.le .non, fun v d W' H' hk le rp => q v d W' H' hk le rp, fun _ _ _ _ z _ => z.elim, fun _ _ _ _ z _ => z.elim⟩
end
end Dt

/-! Dat5: what is walked, comprehensions, for. -/
namespace Dt
open PySem PySem.Spec L2

/-! ### targets: a name, or a tuple of names -/
def setV (σ : L2.St) : List Nat → List V → L2.St
  | j :: js, v :: vs => setV (σ.set j (some v)) js vs
  | _, _ => σ
def setD (δ : DS) : List Nat → List D → DS
  | j :: js, d :: ds => setD (δ.set j (some (.sh d))) js ds
  | _, _ => δ
def gsOf : List Nat → TGs
  | [] => gNil
  | j :: js => gCons (gName j) (gsOf js)
def tgG (K : PySem.W.Frag) (tup : Bool) (js : List Nat) : TG := match tup with
  | true => gTup K js.length (gsOf js)
  | false => match js with
    | [j] => gName j
    | _ => fun _ _ _ _ => False
theorem gs_run {Q : L2.St → Hp → Prop} : ∀ (js : List Nat) (vs : List V) (σ : L2.St) (H : Hp), vs.length = js.length → Q (setV σ js vs) H → gsOf js vs σ H Q
  | [], [], σ, H, _, q => ⟨rfl, q⟩
  | [], _ :: _, _, _, h, _ => by cases h
  | _ :: _, [], _, _, h, _ => by cases h
  | j :: js, v :: vs, σ, H, h, q => ⟨v, vs, rfl, gs_run js vs _ H (Nat.succ.inj h) q⟩
theorem setV_len : ∀ (js : List Nat) (vs : List V) (σ : L2.St), (setV σ js vs).length = σ.length
  | [], _, _ => by cases ‹List V› <;> rfl
  | _ :: _, [], _ => rfl
  | j :: js, v :: vs, σ => by show (setV (σ.set j (some v)) js vs).length = _; rw [setV_len js vs]; simp
theorem setV_out {i : Nat} : ∀ (js : List Nat) (vs : List V) (σ : L2.St), i ∉ js → (setV σ js vs)[i]? = σ[i]?
  | [], vs, _, _ => by cases vs <;> rfl
  | _ :: _, [], _, _ => rfl
  | j :: js, v :: vs, σ, h => by
    show (setV (σ.set j (some v)) js vs)[i]? = _
    rw [setV_out js vs _ (fun z => h (List.mem_cons_of_mem _ z)), List.getElem?_set_ne (fun z => h (by rw [z]; exact List.mem_cons_self))]
theorem wipe_get {i : Nat} (σ : L2.St) : ∀ js : List Nat, (wipe σ js)[i]? = if i ∈ js then (σ[i]?).map (fun _ => none) else σ[i]?
  | [] => by simp [wipe]
  | j :: js => by
    show ((wipe σ js).set j none)[i]? = _
    by_cases e : j = i
    · subst e
      rw [if_pos List.mem_cons_self]
      by_cases hl : j < σ.length
      · rw [List.getElem?_set_self (by rw [wipe_length]; exact hl), List.getElem?_eq_getElem hl]; rfl
      · rw [List.getElem?_eq_none (by rw [List.length_set, wipe_length]; omega), List.getElem?_eq_none (by omega)]; rfl
    · rw [List.getElem?_set_ne e, wipe_get σ js]
      by_cases h : i ∈ js
      · rw [if_pos h, if_pos (List.mem_cons_of_mem _ h)]
      · rw [if_neg h, if_neg (fun z => (List.mem_cons.mp z).elim (fun z => e z.symm) h)]
theorem wipe_setV (σ : L2.St) (js : List Nat) (vs : List V) : wipe (setV (wipe σ js) js vs) js = wipe σ js := by
  apply List.ext_getElem?
  intro i
  rw [wipe_get, wipe_get]
  by_cases h : i ∈ js
  · rw [if_pos h, if_pos h]
    have hl : (setV (wipe σ js) js vs).length = σ.length := by rw [setV_len, wipe_length]
    by_cases hi : i < σ.length
    · rw [List.getElem?_eq_getElem (by rw [hl]; exact hi), List.getElem?_eq_getElem hi]; rfl
    · rw [List.getElem?_eq_none (by rw [hl]; omega), List.getElem?_eq_none (by omega)]
  · rw [if_neg h, if_neg h, setV_out js vs _ h, wipe_get, if_neg h]
theorem setV_wipe : ∀ (js : List Nat) (vs : List V) (σ : L2.St), vs.length = js.length → js.Nodup → setV (wipe σ js) js vs = setV σ js vs
  | [], vs, σ, _, _ => by cases vs <;> rfl
  | _ :: _, [], _, h, _ => by cases h
  | j :: js, v :: vs, σ, h, nd => by
    have nj : j ∉ js := (List.nodup_cons.mp nd).1
    have nd' := (List.nodup_cons.mp nd).2
    show setV ((((wipe σ js).set j none)).set j (some v)) js vs = setV (σ.set j (some v)) js vs
    rw [List.set_set]
    have e : (wipe σ js).set j (some v) = wipe (σ.set j (some v)) js := by
      apply List.ext_getElem?
      intro i
      rw [wipe_get]
      by_cases e1 : j = i
      · subst e1
        rw [if_neg nj]
        by_cases hl : j < σ.length
        · rw [List.getElem?_set_self (by rw [wipe_length]; exact hl), List.getElem?_set_self hl]
        · rw [List.getElem?_eq_none (by rw [List.length_set, wipe_length]; omega), List.getElem?_eq_none (by rw [List.length_set]; omega)]
      · rw [List.getElem?_set_ne e1, List.getElem?_set_ne e1, wipe_get]
    rw [e]
    exact setV_wipe js vs _ (Nat.succ.inj h) nd'
theorem rep_setV {W : Wd} {H : Hp} (ok : WOk W H) : ∀ (js : List Nat) (vs : List V) (ds : List D) (σ : L2.St) (δ : DS), RepS W H σ δ → Rps (hid W.O H) vs ds → RepS W H (setV σ js vs) (setD δ js ds)
  | [], vs, ds, _, _, r, h => by cases h <;> exact r
  | _ :: _, _, _, _, _, r, .nil => r
  | j :: js, _, _, σ, δ, r, .cons a b => rep_setV ok js _ _ _ _ (RepS.set (s := .sh _) r (.rfl' ok) a trivial j) b

/-! ### what is walked -/
def Steps (K : PySem.W.Frag) (tup : Bool) (js : List Nat) (J : It) (us : List (List D)) (G : Hp) (C : Hp → Prop) : Prop :=
  ∀ (W : Wd) (H : Hp), WOk W H → Sub G (hid W.O H) → C H → ∀ i : Nat,
    (∀ ds, us[i]? = some ds → J.go i H ∧ ∀ x H', J.yld i H x H' → Le W H W H' ∧ ∀ (σ : L2.St) (Q : L2.St → Hp → Prop), (∀ vs, vs.length = js.length → Rps (hid W.O H') vs ds → Q (setV σ js vs) H') → tgG K tup js x σ H' Q) ∧
    (us.length = i → J.stop i H)
/-- what stood still stands -/
def Kept (M : List Addr) (H H2 : Hp) : Prop := ∀ a o, a ∉ M → H a = some o → H2 a = some o
theorem stop_le {P : Prop} {n i : Nat} (h : n ≤ i → P) : n = i → P := fun e => h (Nat.le_of_eq e)
def DI (X : Cx) (tg iter : Expr) (tup : Bool) (js : List Nat) (δ : DS) (k : List (List D) → Prop) : Prop := ∃ wi, PI X tg iter wi ∧ ∀ (σ : L2.St) (H : Hp) (W : Wd), WOk W H → RepS W H σ δ → ∀ R : It → Hp → Prop,
  (∀ J us W' H', k us → Le W H W' H' → Steps X.K tup js J us (hid W'.O H') (Kept W'.M H') → R J H') → wi σ H R
def DIs (X : Cx) (tg iter : Expr) (tup : Bool) (js : List Nat) (δ : DS) (k : List (List D) → Prop) : Prop := ∃ wi, PI X tg iter wi ∧ ∀ (σ : L2.St) (H : Hp) (W : Wd), WOk W H → RepS W H σ δ → ∀ R : It → Hp → Prop,
  (∀ J us W' H', k us → Le W H W' H' → Steps X.K tup js J us (hid W'.O H') (fun _ => True) → R J H') → wi σ H R
section
variable {X : Cx} {e a b c elt tg iter : Expr} {es : List Expr} {δ : DS} {pos : Pos}
theorem di_s {tup : Bool} {js : List Nat} {k : List (List D) → Prop} (h : DIs X tg iter tup js δ k) : DI X tg iter tup js δ k := by
  obtain ⟨wi, h1, h2⟩ := h
  exact ⟨wi, h1, fun σ H W ok R R' q => h2 σ H W ok R R' fun J us W' H' hk le st => q J us W' H' hk le fun W2 H2 ok2 g _ => st W2 H2 ok2 g trivial⟩
def ones (ds : List D) : List (List D) := ds.map fun d => [d]
theorem ones_get {ds : List D} {i : Nat} {u : List D} (h : (ones ds)[i]? = some u) : ∃ d, ds[i]? = some d ∧ u = [d] := by
  unfold ones at h
  rw [List.getElem?_map] at h
  cases e : ds[i]? with
  | none => rw [e] at h; cases h
  | some d => rw [e] at h; cases h; exact ⟨d, rfl, rfl⟩
theorem sub_rps {W : Wd} {H : Hp} {G : Hp} (g : Sub G (hid W.O H)) {vs : List V} {ds : List D} (r : Rps G vs ds) : Rps (hid W.O H) vs ds := r.mono g
theorem di_list (j : Nat) {k : List (List D) → Prop} (h : DB X iter δ fun d => ∃ ds, d = .list ds ∧ k (ones ds)) : DI X tg iter false [j] δ k :=
  ⟨_, pi_list pe_w, fun σ H W ok R R' q => h σ H W ok R _ fun v d W1 H1 ⟨ds, ed, hk⟩ e1 r1 => by
    subst ed
    obtain ⟨l, vs, h1, h2, h3, h4⟩ := r1
    subst h1
    refine ⟨l, rfl, ⟨vs, SqL.of h3⟩, q _ _ W1 H1 hk e1 ?_⟩
    intro W2 H2 ok2 g hc i
    have hc := hc l _ (fun z => h2 (e1.ok.mb l z)) h3
    refine ⟨fun u hu => ?_, stop_le fun hi => ⟨vs, SqL.of hc, by rw [h4.len]; simpa [ones] using hi⟩⟩
    obtain ⟨d, hd, eu⟩ := ones_get hu
    subst eu
    obtain ⟨w, hw, rw_⟩ := h4.get hd
    refine ⟨⟨vs, w, SqL.of hc, hw⟩, fun x H3 ⟨e3, hx⟩ => ?_⟩
    subst e3
    have := hx vs (SqL.of hc)
    rw [hw] at this
    cases this
    exact ⟨.rfl' ok2, fun σ Q qq => qq [w] rfl (.one (rw_.mono g))⟩⟩
theorem dis_list (j : Nat) {k : List (List D) → Prop} (h : DE X iter δ fun d => ∃ ds, d = .list ds ∧ k (ones ds)) : DIs X tg iter false [j] δ k :=
  ⟨_, pi_list pe_w, fun σ H W ok R R' q => h σ H W ok R _ fun v d W1 H1 ⟨ds, ed, hk⟩ e1 r1 => by
    subst ed
    cases r1 with
    | @lst l vs _ h3 h4 =>
      refine ⟨l, rfl, ⟨vs, SqL.of (hid_some h3).2⟩, q _ _ W1 H1 hk e1 ?_⟩
      intro W2 H2 ok2 g _ i
      have hc := (hid_some (g _ _ h3)).2
      refine ⟨fun u hu => ?_, stop_le fun hi => ⟨vs, SqL.of hc, by rw [h4.len]; simpa [ones] using hi⟩⟩
      obtain ⟨d, hd, eu⟩ := ones_get hu
      subst eu
      obtain ⟨w, hw, rw_⟩ := h4.get hd
      refine ⟨⟨vs, w, SqL.of hc, hw⟩, fun x H3 ⟨e3, hx⟩ => ?_⟩
      subst e3
      have := hx vs (SqL.of hc)
      rw [hw] at this
      cases this
      exact ⟨.rfl' ok2, fun σ Q qq => qq [w] rfl (.one (rw_.mono g))⟩⟩
theorem dis_tup (j : Nat) {k : List (List D) → Prop} (h : DE X iter δ fun d => ∃ ds, d = .tuple ds ∧ k (ones ds)) : DIs X tg iter false [j] δ k :=
  ⟨_, pi_tup pe_w, fun σ H W ok R R' q => h σ H W ok R _ fun v d W1 H1 ⟨ds, ed, hk⟩ e1 r1 => by
    subst ed
    cases r1 with
    | @tup l vs _ h3 h4 =>
      refine ⟨l, rfl, ⟨vs, SqT.of (hid_some h3).2⟩, q _ _ W1 H1 hk e1 ?_⟩
      intro W2 H2 ok2 g _ i
      have hc := (hid_some (g _ _ h3)).2
      refine ⟨fun u hu => ?_, stop_le fun hi => ⟨vs, SqT.of hc, by rw [h4.len]; simpa [ones] using hi⟩⟩
      obtain ⟨d, hd, eu⟩ := ones_get hu
      subst eu
      obtain ⟨w, hw, rw_⟩ := h4.get hd
      refine ⟨⟨vs, w, SqT.of hc, hw⟩, fun x H3 ⟨e3, hx⟩ => ?_⟩
      subst e3
      have := hx vs (SqT.of hc)
      rw [hw] at this
      cases this
      exact ⟨.rfl' ok2, fun σ Q qq => qq [w] rfl (.one (rw_.mono g))⟩⟩
def rngD (lo c : Int) (n : Nat) : List D := (List.range n).map fun (i : Nat) => .int (lo + (i : Int) * c)
theorem rngD_len (lo c : Int) (n : Nat) : (rngD lo c n).length = n := by simp [rngD]
theorem rngD_get {lo c : Int} {n i : Nat} {d : D} (h : (rngD lo c n)[i]? = some d) : i < n ∧ d = .int (lo + (i : Int) * c) := by
  unfold rngD at h
  rw [List.getElem?_map] at h
  by_cases hi : i < n
  · rw [List.getElem?_range hi] at h
    cases h
    exact ⟨hi, rfl⟩
  · rw [List.getElem?_eq_none (by simpa using hi)] at h
    cases h
theorem dis_rng1 (j : Nat) {p : Pos} {k : List (List D) → Prop} (hm : X.mg "range" = none) (h : DE X a δ fun d => ∃ n : Int, d = .int n ∧ -(2 ^ 62) ≤ n ∧ n < 2 ^ 62 ∧ k (ones (rngD 0 1 n.toNat))) (hg : Gl X "range" := by rfl)
    (hs : starEach [a] X.env = [(false, eval a X.env)] := by rfl) : DIs X tg (.Call (.Name "range" p) [a] [] pos) false [j] δ k :=
  ⟨_, pi_range1 hg hm (pa_cons pe_w pa_nil (by rw [hs]; rfl)) hs, fun σ H W ok R R' q => h σ H W ok R _ fun v d W1 H1 ⟨n, ed, b1, b2, hk⟩ e1 r1 => by
    subst ed; cases r1
    refine ⟨n, rfl, b1, b2, q _ _ W1 H1 hk e1 ?_⟩
    intro W2 H2 ok2 g _ i
    refine ⟨fun u hu => ?_, stop_le fun hi => by simpa [ones, rngD_len, Itr] using hi⟩
    obtain ⟨d, hd, eu⟩ := ones_get hu
    obtain ⟨hi, ed⟩ := rngD_get hd
    subst eu ed
    refine ⟨hi, fun x H3 ⟨e3, hx⟩ => ?_⟩
    subst e3 hx
    refine ⟨.rfl' ok2, fun σ Q qq => qq [.int (0 + (i : Int))] rfl (.one ?_)⟩
    rw [Int.mul_one]
    exact .int _⟩
theorem dis_rng2 (j : Nat) {p : Pos} {k : List (List D) → Prop} (hm : X.mg "range" = none) (h : DE X a δ fun d => ∃ m : Int, d = .int m ∧ DE X b δ fun d => ∃ n : Int, d = .int n ∧ (-(2 ^ 62) ≤ m ∧ m < 2 ^ 62 ∧ -(2 ^ 62) ≤ n ∧ n < 2 ^ 62) ∧ k (ones (rngD m 1 (n - m).toNat))) (hg : Gl X "range" := by rfl)
    (hs : starEach [a, b] X.env = [(false, eval a X.env), (false, eval b X.env)] := by rfl) (hs2 : starEach [b] X.env = [(false, eval b X.env)] := by rfl) : DIs X tg (.Call (.Name "range" p) [a, b] [] pos) false [j] δ k :=
  ⟨_, pi_range2 hg hm (pa_cons pe_w (pa_cons pe_w pa_nil (by rw [hs2]; rfl)) (by rw [hs, hs2])) hs hs2, fun σ H W ok R R' q => h σ H W ok R _ fun v d W1 H1 ⟨m, ed, hb⟩ e1 r1 => by
    subst ed; cases r1
    refine hb σ H1 W1 e1.ok (R.le e1) _ fun v2 d2 W2 H2 ⟨n, en, bd, hk⟩ e2 r2 => ?_
    subst en; cases r2
    refine ⟨m, n, rfl, bd, q _ _ W2 H2 hk (e1.tr e2) ?_⟩
    intro W3 H3 ok3 g _ i
    refine ⟨fun u hu => ?_, stop_le fun hi => by simpa [ones, rngD_len, Itr] using hi⟩
    obtain ⟨d, hd, eu⟩ := ones_get hu
    obtain ⟨hi, ed⟩ := rngD_get hd
    subst eu ed
    refine ⟨hi, fun x H4 ⟨e4, hx⟩ => ?_⟩
    subst e4 hx
    refine ⟨.rfl' ok3, fun σ Q qq => qq [.int (m + (i : Int))] rfl (.one ?_)⟩
    rw [Int.mul_one]
    exact .int _⟩
theorem dis_rng3 (j : Nat) {p : Pos} {k : List (List D) → Prop} (hm : X.mg "range" = none) (h : DE X a δ fun d => ∃ m : Int, d = .int m ∧ DE X b δ fun d => ∃ n : Int, d = .int n ∧ DE X c δ fun d => ∃ (s : Int) (t : Nat), d = .int s ∧ RgC m n s t ∧ k (ones (rngD m s t))) (hg : Gl X "range" := by rfl)
    (hs : starEach [a, b, c] X.env = (false, eval a X.env) :: starEach [b, c] X.env := by rfl) (hs2 : starEach [b, c] X.env = (false, eval b X.env) :: starEach [c] X.env := by rfl) (hs3 : starEach [c] X.env = (false, eval c X.env) :: starEach [] X.env := by rfl)
    (hpl : (backTo pos (starEach [b, c] X.env)).any (·.1) = false := by rfl) : DIs X tg (.Call (.Name "range" p) [a, b, c] [] pos) false [j] δ k :=
  ⟨_, pi_range3 hg hm (pa_cons pe_w (pa_cons pe_w (pa_cons pe_w pa_nil hs3) hs2) hs) hs hpl, fun σ H W ok R R' q => h σ H W ok R _ fun v d W1 H1 ⟨m, ed, hb⟩ e1 r1 => by
    subst ed; cases r1
    refine hb σ H1 W1 e1.ok (R.le e1) _ fun v2 d2 W2 H2 ⟨n, en, hc⟩ e2 r2 => ?_
    subst en; cases r2
    refine hc σ H2 W2 e2.ok (R.le (e1.tr e2)) _ fun v3 d3 W3 H3 ⟨s, t, es, hr, hk⟩ e3 r3 => ?_
    subst es; cases r3
    refine ⟨m, n, s, t, rfl, hr, q _ _ W3 H3 hk ((e1.tr e2).tr e3) ?_⟩
    intro W4 H4 ok4 g _ i
    refine ⟨fun u hu => ?_, stop_le fun hi => by simpa [ones, rngD_len, Itc] using hi⟩
    obtain ⟨d, hd, eu⟩ := ones_get hu
    obtain ⟨hi, ed⟩ := rngD_get hd
    subst eu ed
    refine ⟨hi, fun x H5 ⟨e5, hx⟩ => ?_⟩
    subst e5 hx
    exact ⟨.rfl' ok4, fun σ Q qq => qq [.int (m + (i : Int) * s)] rfl (.one (.int _))⟩⟩
/-- two at a time -/
def twos (ds es : List D) : List (List D) := List.zipWith (fun a b => [a, b]) ds es
theorem twos_get {ds es : List D} {i : Nat} {u : List D} (h : (twos ds es)[i]? = some u) : ∃ d e, ds[i]? = some d ∧ es[i]? = some e ∧ u = [d, e] := by
  unfold twos at h
  rw [List.getElem?_zipWith] at h
  cases e1 : ds[i]? with
  | none => rw [e1] at h; cases h
  | some d =>
    cases e2 : es[i]? with
    | none => rw [e1, e2] at h; cases h
    | some e => rw [e1, e2] at h; cases h; exact ⟨d, e, rfl, rfl, rfl⟩
theorem pair_step {K : PySem.W.Frag} {W : Wd} {H : Hp} {T : Addr} {x y : V} {d e : D} {j1 j2 : Nat} (ok : WOk W H) (hT : H T = none) (r1 : Rp (hid W.O H) x d) (r2 : Rp (hid W.O H) y e) :
    Le W H W (upd H T (.tup [x, y])) ∧ ∀ (σ : L2.St) (Q : L2.St → Hp → Prop), (∀ vs, vs.length = [j1, j2].length → Rps (hid W.O (upd H T (.tup [x, y]))) vs [d, e] → Q (setV σ [j1, j2] vs) (upd H T (.tup [x, y]))) → tgG K true [j1, j2] (.ref T) σ (upd H T (.tup [x, y])) Q := by
  have le : Le W H W (upd H T (.tup [x, y])) := .put ok hT
  refine ⟨le, fun σ Q q => ⟨T, [x, y], rfl, SqT.of upd_same, rfl, gs_run [j1, j2] [x, y] σ _ rfl (q [x, y] rfl (.cons (r1.mono le.hid) (.one (r2.mono le.hid))))⟩⟩
theorem dis_zipT (j1 j2 : Nat) {p tpos : Pos} {elts : List Expr} {kk : Nat} {k : List (List D) → Prop} (hm : X.mg "zip" = none) (h : DE X a δ fun x => ∃ ds, x = .tuple ds ∧ DE X b δ fun y => ∃ es, y = .tuple es ∧ k (twos ds es)) (hg : Gl X "zip" := by rfl)
    (hs : starEach [a, b] X.env = (false, eval a X.env) :: starEach [b] X.env := by rfl) (hs2 : starEach [b] X.env = (false, eval b X.env) :: starEach [] X.env := by rfl) : DIs X (.Tuple elts kk tpos) (.Call (.Name "zip" p) [a, b] [] pos) true [j1, j2] δ k :=
  ⟨_, RZ.pi_zipA hg hm (pa_cons pe_w (pa_cons pe_w pa_nil hs2) hs) hs (by rw [hs2]; rfl), fun σ H W ok R R' q => h σ H W ok R _ fun v d W1 H1 ⟨ds, ed, hb⟩ e1 r1 => by
    subst ed
    refine hb σ H1 W1 e1.ok (R.le e1) _ fun v2 d2 W2 H2 ⟨es, ee, hk⟩ e2 r2 => ?_
    subst ee
    have r1' := r1.mono e2.hid
    cases r1' with
    | @tup l1 vs _ g1 g2 =>
      cases r2 with
      | @tup l2 us _ f1 f2 =>
        refine ⟨l1, l2, vs, us, rfl, .inr ⟨SqT.of (hid_some g1).2, SqT.of (hid_some f1).2, q _ _ W2 H2 hk (e1.tr e2) ?_⟩⟩
        intro W3 H3 ok3 g _ i
        have c1 := (hid_some (g _ _ g1)).2
        have c2 := (hid_some (g _ _ f1)).2
        refine ⟨fun u hu => ?_, stop_le fun hi => ⟨vs, us, SqT.of c1, SqT.of c2, ?_⟩⟩
        · obtain ⟨d, e, hd, he, eu⟩ := twos_get hu
          subst eu
          obtain ⟨x, hx, rx⟩ := g2.get hd
          obtain ⟨y, hy, ry⟩ := f2.get he
          refine ⟨⟨vs, us, x, y, SqT.of c1, SqT.of c2, hx, hy⟩, fun z H4 ⟨T, x', y', ez, hT, eH, hx', hy'⟩ => ?_⟩
          have a1 := hx' vs (SqT.of c1)
          have a2 := hy' us (SqT.of c2)
          rw [hx] at a1; rw [hy] at a2
          cases a1; cases a2
          subst ez eH
          exact pair_step ok3 hT (rx.mono g) (ry.mono g)
        · have hl : (twos ds es).length = min ds.length es.length := by simp [twos]
          rw [hl] at hi
          rw [g2.len, f2.len]
          omega⟩
theorem dis_zipL (j1 j2 : Nat) {p tpos : Pos} {elts : List Expr} {kk : Nat} {k : List (List D) → Prop} (hm : X.mg "zip" = none) (h : DE X a δ fun x => ∃ ds, x = .list ds ∧ DE X b δ fun y => ∃ es, y = .list es ∧ k (twos ds es)) (hg : Gl X "zip" := by rfl)
    (hs : starEach [a, b] X.env = (false, eval a X.env) :: starEach [b] X.env := by rfl) (hs2 : starEach [b] X.env = (false, eval b X.env) :: starEach [] X.env := by rfl) : DIs X (.Tuple elts kk tpos) (.Call (.Name "zip" p) [a, b] [] pos) true [j1, j2] δ k :=
  ⟨_, RZ.pi_zipA hg hm (pa_cons pe_w (pa_cons pe_w pa_nil hs2) hs) hs (by rw [hs2]; rfl), fun σ H W ok R R' q => h σ H W ok R _ fun v d W1 H1 ⟨ds, ed, hb⟩ e1 r1 => by
    subst ed
    refine hb σ H1 W1 e1.ok (R.le e1) _ fun v2 d2 W2 H2 ⟨es, ee, hk⟩ e2 r2 => ?_
    subst ee
    have r1' := r1.mono e2.hid
    cases r1' with
    | @lst l1 vs _ g1 g2 =>
      cases r2 with
      | @lst l2 us _ f1 f2 =>
        refine ⟨l1, l2, vs, us, rfl, .inl ⟨SqL.of (hid_some g1).2, SqL.of (hid_some f1).2, q _ _ W2 H2 hk (e1.tr e2) ?_⟩⟩
        intro W3 H3 ok3 g _ i
        have c1 := (hid_some (g _ _ g1)).2
        have c2 := (hid_some (g _ _ f1)).2
        refine ⟨fun u hu => ?_, stop_le fun hi => ⟨vs, us, SqL.of c1, SqL.of c2, ?_⟩⟩
        · obtain ⟨d, e, hd, he, eu⟩ := twos_get hu
          subst eu
          obtain ⟨x, hx, rx⟩ := g2.get hd
          obtain ⟨y, hy, ry⟩ := f2.get he
          refine ⟨⟨vs, us, x, y, SqL.of c1, SqL.of c2, hx, hy⟩, fun z H4 ⟨T, x', y', ez, hT, eH, hx', hy'⟩ => ?_⟩
          have a1 := hx' vs (SqL.of c1)
          have a2 := hy' us (SqL.of c2)
          rw [hx] at a1; rw [hy] at a2
          cases a1; cases a2
          subst ez eH
          exact pair_step ok3 hT (rx.mono g) (ry.mono g)
        · have hl : (twos ds es).length = min ds.length es.length := by simp [twos]
          rw [hl] at hi
          rw [g2.len, f2.len]
          omega⟩

/-! ### comprehensions -/
def BE (X : Cx) (scope : Scope) (e : Expr) (δ : DS) (k : D → Prop) : Prop := ∀ (s : Shared) (H : Hp) (C : Addr) (cl : List (Str × Addr)) (fp : List Addr), DE (X.blk s H scope (compEnvC scope cl C X.env) fp) e δ k
def wEb (X : Cx) (scope : Scope) (e : Expr) : TE := fun σ H Q => ∀ (s : Shared) (H0 : Hp) (C : Addr) (cl : List (Str × Addr)) (fp : List Addr), wE (X.blk s H0 scope (compEnvC scope cl C X.env) fp) e σ H Q
theorem pe_wb {scope : Scope} (s : Shared) (H0 : Hp) (C : Addr) (cl : List (Str × Addr)) (fp : List Addr) : PE (X.blk s H0 scope (compEnvC scope cl C X.env) fp) e (wEb X scope e) := ⟨fun pins s' _ _ _ I h => h _ _ _ _ _ pins s' I⟩
/-- the tests of a clause: none, or one -/
def BT (X : Cx) (scope : Scope) (ifs : List Expr) (δ : DS) (k : Bool → Prop) : Prop := match ifs with
  | [] => k true
  | [c] => ∀ (s : Shared) (H : Hp) (C : Addr) (cl : List (Str × Addr)) (fp : List Addr), DT (X.blk s H scope (compEnvC scope cl C X.env) fp) c δ k
  | _ => False
def wTb (X : Cx) (scope : Scope) (ifs : List Expr) : TT := match ifs with
  | [] => tYes
  | [c] => fun σ H Q => ∀ (s : Shared) (H0 : Hp) (C : Addr) (cl : List (Str × Addr)) (fp : List Addr), wT (X.blk s H0 scope (compEnvC scope cl C X.env) fp) c σ H Q
  | _ => fun _ _ _ => False
theorem pts_wb {scope : Scope} {ifs : List Expr} (s : Shared) (H0 : Hp) (C : Addr) (cl : List (Str × Addr)) (fp : List Addr) : PTs (X.blk s H0 scope (compEnvC scope cl C X.env) fp) ifs (wTb X scope ifs) := by
  match ifs with
  | [] => exact pts_nil
  | [c] => exact pts_one ⟨fun pins s' _ _ _ I h => h _ _ _ _ _ pins s' I⟩
  | _ :: _ :: _ => exact ⟨fun _ _ _ _ _ _ h => h.elim⟩
theorem bt_run {scope : Scope} {ifs : List Expr} {k : Bool → Prop} (h : BT X scope ifs δ k) {σ : L2.St} {H : Hp} {W : Wd} (ok : WOk W H) (R : RepS W H σ δ) (Q : Bool → Hp → Prop) (q : ∀ b W' H', k b → Le W H W' H' → Q b H') : wTb X scope ifs σ H Q := by
  match ifs with
  | [] => exact q true W H h (.rfl' ok)
  | [c] => exact fun s H0 C cl fp => h s H0 C cl fp σ H W ok R Q q
  | _ :: _ :: _ => exact h.elim
theorem be_run {scope : Scope} {k : D → Prop} (h : BE X scope e δ k) {σ : L2.St} {H : Hp} {W : Wd} (ok : WOk W H) (R : RepS W H σ δ) (Q : VK) (q : ∀ v d W' H', k d → Le W H W' H' → Rp (hid W'.O H') v d → Q v H') : wEb X scope e σ H Q :=
  fun s H0 C cl fp => h s H0 C cl fp σ H W ok R Q q
/-- the target in the block -/
def TgOk (X : Cx) (scope : Scope) (tg : Expr) (tup : Bool) (js : List Nat) : Prop := ∀ (s : Shared) (H : Hp) (C : Addr) (cl : List (Str × Addr)) (fp : List Addr), PG (X.blk s H scope (compEnvC scope cl C X.env) fp) tg (tgG X.K tup js)
/-- the turns of a comprehension -/
def Turns (X : Cx) (scope : Scope) (ifs : List Expr) (elt : Expr) (js : List Nat) (δ : DS) (us : List (List D)) (k : List D → Prop) : Prop :=
  ∃ I : Nat → List D → Prop, us.length < 100000 ∧ I 0 [] ∧ (∀ (i : Nat) (ds acc : List D), us[i]? = some ds → I i acc → BT X scope ifs (setD δ js ds) fun t => if t = true then BE X scope elt (setD δ js ds) fun y => I (i + 1) (acc ++ [y]) else I (i + 1) acc) ∧ ∀ acc, I us.length acc → k acc
theorem lc_run {scope : Scope} {ifs : List Expr} {tup : Bool} {js : List Nat} (hjs : js.Nodup) {J : It} {us : List (List D)} {k : List D → Prop} {σ : L2.St} {H : Hp} {W : Wd} (ok : WOk W H) (R : RepS W H σ δ) (st : Steps X.K tup js J us (hid W.O H) (Kept W.M H)) (tn : Turns X scope ifs elt js δ us k) (Qd : V → Hp → Prop)
    (q : ∀ l vs ds W' H', k ds → Le W H W' H' → l ∈ W'.O → l ∉ W.O → H' l = some (.lst vs) → Rps (hid W'.O H') vs ds → Qd (.ref l) H') (Dl : Addr) (hD : H Dl = none) :
    ∃ Z : Nat → Nat → Hp → Prop, (∃ m, Z 0 m (upd H Dl (.lst []))) ∧ ∀ i m H2, Z i m H2 → (J.stop i H2 ∧ Qd (.ref Dl) H2) ∨ (J.go i H2 ∧ ∃ Nx : Hp → Prop, (∀ H', Nx H' → ∃ m', m' < m ∧ Z (i + 1) m' H') ∧
      ∀ x H', J.yld i H2 x H' → tgG X.K tup js x (wipe σ js) H' fun σ2 H3 => wipe σ2 js = wipe σ js ∧ wTb X scope ifs σ2 H3 fun b H4 =>
        if b = true then wEb X scope elt σ2 H4 fun y H5 => ∃ acc, H5 Dl = some (.lst acc) ∧ acc.length < sizeLine ∧ Nx (upd H5 Dl (.lst (acc ++ [y]))) else Nx H4) := by
  obtain ⟨I, hlen, h0, hs, hd⟩ := tn
  have le0 : Le W H (W.add Dl) (upd H Dl (.lst [])) := .own ok hD
  have hDO : Dl ∉ W.O := fun z => ok.there Dl z hD
  refine ⟨fun i m H2 => m = us.length - i ∧ i ≤ us.length ∧ ∃ W2 vs acc, Le W H W2 H2 ∧ Dl ∈ W2.O ∧ H2 Dl = some (.lst vs) ∧ Rps (hid W2.O H2) vs acc ∧ I i acc ∧ acc.length ≤ i,
    ⟨us.length, by simp, Nat.zero_le _, W.add Dl, [], [], le0, List.mem_cons_self, upd_same, .nil, h0, Nat.le_refl _⟩, ?_⟩
  rintro i m H2 ⟨rfl, hi, W2, vs, acc, le2, hO2, hl2, r2, hI, ha⟩
  have s2 := st W2 H2 le2.ok le2.hid le2.keep i
  by_cases hlt : i < us.length
  · obtain ⟨go, yl⟩ := s2.1 _ (List.getElem?_eq_getElem hlt)
    refine .inr ⟨go, fun H' => i + 1 ≤ us.length ∧ ∃ W3 vs acc, Le W H W3 H' ∧ Dl ∈ W3.O ∧ H' Dl = some (.lst vs) ∧ Rps (hid W3.O H') vs acc ∧ I (i + 1) acc ∧ acc.length ≤ i + 1, fun H' ⟨a1, a2⟩ => ⟨us.length - (i + 1), by omega, rfl, a1, a2⟩, fun x H' hy => ?_⟩
    obtain ⟨le3, tgr⟩ := yl x H' hy
    refine tgr (wipe σ js) _ fun ws hw rw_ => ?_
    refine ⟨wipe_setV σ js ws, ?_⟩
    rw [setV_wipe js ws σ hw hjs]
    have R3 := rep_setV le3.ok js _ _ _ _ (R.le (le2.tr le3)) rw_
    have hDB : Dl ∉ W2.M := fun z => hDO (ok.bo _ (ok.mb _ (by rw [← le2.m]; exact z)))
    refine bt_run (hs i _ acc (List.getElem?_eq_getElem hlt) hI) le3.ok R3 _ fun t W4 H4 hk4 le4 => ?_
    cases t with
    | false =>
      have hk4 : I (i + 1) acc := hk4
      exact ⟨hlt, W4, vs, acc, (le2.tr le3).tr le4, le4.sub _ hO2, le4.keep _ _ hDB (le3.keep _ _ hDB hl2), (r2.mono le3.hid).mono le4.hid, hk4, by omega⟩
    | true =>
      refine be_run hk4 le4.ok (R3.le le4) _ fun v d W5 H5 hk5 le5 r5 => ?_
      have hl5 : H5 Dl = some (.lst vs) := le5.keep _ _ (by rw [le4.m]; exact hDB) (le4.keep _ _ hDB (le3.keep _ _ hDB hl2))
      have r5' : Rps (hid W5.O H5) vs acc := ((r2.mono le3.hid).mono le4.hid).mono le5.hid
      have hO5 : Dl ∈ W5.O := le5.sub _ (le4.sub _ hO2)
      have leA := (((le2.tr le3).tr le4).tr le5)
      have hB5 : Dl ∉ W5.B := le_notB leA hDO
      have leB : Le W H W5 (upd H5 Dl (.lst (vs ++ [v]))) := by
        refine ⟨leA.b, leA.m, leA.sub, leA.new, fun b o hb e => ?_, leA.ok0, leA.ok.write hO5 hB5⟩
        rw [upd_ne (ne_of_none e hD)]; exact leA.keep b o hb e
      have hO5w : WOk W5 (upd H5 Dl (.lst (vs ++ [v]))) := leB.ok
      refine ⟨vs, hl5, ?_, hlt, W5, vs ++ [v], acc ++ [d], leB, hO5, upd_same, ?_, hk5, by simp; omega⟩
      · rw [r5'.len]; exact small_lineT (by omega)
      · rw [hid_upd hO5]; exact r5'.app (.one r5)
  · have e : i = us.length := by omega
    subst e
    exact .inl ⟨s2.2 rfl, q Dl vs acc W2 H2 (hd acc hI) le2 hO2 hDO hl2 r2⟩
end
end Dt

/-! Dat6: comprehensions as rules, dict comprehensions, for. -/
namespace Dt
open PySem PySem.Spec L2
section
variable {X : Cx} {e a b c elt tg iter : Expr} {es : List Expr} {δ : DS} {pos : Pos} {ifs : List Expr} {scope : Scope}
theorem dl_lc {own : List (Str × Nat)} {tup : Bool} {js : List Nat} {k : List D → Prop} (hc : X.calm = true) (nd : X.N.Nodup) (ok : BlkOk X.N X.env.scope scope own) (hjs : own.map (·.2) = js) (hnd : js.Nodup) (hg : TgOk X scope tg tup js)
    (it : DI X tg iter tup js δ fun us => Turns X scope ifs elt js δ us k) (hs : ∀ x, foldedSetIterable iter X.env x = pure x := by intro _; rfl) : DL X (.ListComp elt [⟨tg, iter, ifs, 0⟩] scope pos) δ k := fun σ H W wok R Q q => by
  subst hjs
  obtain ⟨wi, hp, hr⟩ := it
  refine wE_of (pe_lc hc nd hp ok hg (pts_wb (X := X) (ifs := ifs)) (pe_wb (X := X) (e := elt)) hs) ?_
  refine hr σ H W wok R _ fun J us W1 H1 tn le1 st Dl hD => ?_
  exact lc_run hnd le1.ok (R.le le1) st tn _ (fun l vs ds W' H' hk le h1 h2 h3 h4 => q l vs ds W' H' hk (le1.tr le) h1 (fun z => h2 (le1.sub l z)) h3 h4) Dl hD
/-- y = [..] on one line, y a plain local: as shared data, or as one's own list -/
theorem ds_setLc (i : Nat) {E : DEnd} {y : Str} {py spos : Pos} {own : List (Str × Nat)} {tup : Bool} {js : List Nat} (hc : X.calm = true) (nd : X.N.Nodup) (ok : BlkOk X.N X.env.scope scope own) (hjs : own.map (·.2) = js) (hnd : js.Nodup) (hg : TgOk X scope tg tup js)
    (sw : swapsWith (.ListComp elt [⟨tg, iter, ifs, 0⟩] scope pos) (some (.Name y py)) spos.line X.env = pure true)
    (it : DI X tg iter tup js δ fun us => Turns X scope ifs elt js δ us fun ds => E.nx (δ.set i (some (.sh (.list ds)))) ∨ E.nx (δ.set i (some (.own ds)))) (hy : X.N[i]? = some y := by rfl) (hyl : X.env.scope.names.lookup y = some .local := by rfl)
    (hs : ∀ x, foldedSetIterable iter X.env x = pure x := by intro _; rfl) : DSt X (.Assign [.Name y py] (.ListComp elt [⟨tg, iter, ifs, 0⟩] scope pos) spos) δ E := fun W0 H0 G W H σ at_ Z z => by
  subst hjs
  obtain ⟨wi, hp, hr⟩ := it
  refine wS_of (ps_setLc (i := i) hc nd hy hyl sw hp ok hg (pts_wb (X := X) (ifs := ifs)) (pe_wb (X := X) (e := elt)) hs) ?_
  refine hr σ H W at_.le.ok at_.r _ fun J us W1 H1 tn le1 st Dl hD => ?_
  refine lc_run hnd le1.ok (at_.r.le le1) st tn (fun x H1 => gName i x σ H1 Z.nx) (fun l vs ds W' H' hk le h1 h2 h3 h4 => ?_) Dl hD
  have leA := le1.tr le
  have h2' : l ∉ W.O := fun z => h2 (le1.sub l z)
  rcases hk with hk | hk
  · exact z.nx _ _ _ H' hk (at_.set (s := .sh (.list ds)) (leA.show_ h2') (.lst (hid_of (fun z => of_decide_eq_true (List.mem_filter.mp z).2 rfl) h3) (h4.mono (hid_less fun a ha => (List.mem_filter.mp ha).1))) trivial i)
  · exact z.nx _ _ _ H' hk (at_.set (s := .own ds) leA ⟨l, vs, rfl, h1, le_notB leA h2', h3, h4⟩ (fun l' e => by cases e; exact h2') i)

/-! ### turns that are told by functions -/
/-- every item gives one -/
theorem turns_map {α : Type} {js : List Nat} {k : List D → Prop} {us : List (List D)} (xs : List α) (enc : α → List D) (f : α → D) (hu : us = xs.map enc) (hl : xs.length < 100000)
    (h : ∀ x ∈ xs, BE X scope elt (setD δ js (enc x)) fun y => y = f x) (hk : k (xs.map f)) : Turns X scope [] elt js δ us k := by
  subst hu
  refine ⟨fun i acc => acc = (xs.take i).map f, by simpa using hl, by simp, fun i ds acc hi hI => ?_, fun acc hI => ?_⟩
  · rw [List.getElem?_map] at hi
    cases e : xs[i]? with
    | none => rw [e] at hi; cases hi
    | some x =>
      rw [e] at hi
      cases hi
      show BE X scope elt _ _
      intro s H C cl fp
      refine (h x (List.mem_of_getElem? e) s H C cl fp).imp fun y hy => ?_
      show acc ++ [y] = (xs.take (i + 1)).map f
      rw [hI, hy, List.take_add_one, e, List.map_append]
      rfl
  · have hI : acc = (xs.take (xs.map enc).length).map f := hI
    rw [hI, List.length_map, List.take_length]; exact hk
theorem turns_filter {α : Type} {js : List Nat} {k : List D → Prop} {us : List (List D)} {cnd : Expr} (xs : List α) (enc : α → List D) (p : α → Bool) (f : α → D) (hu : us = xs.map enc) (hl : xs.length < 100000)
    (h : ∀ x ∈ xs, BT X scope [cnd] (setD δ js (enc x)) fun t => t = p x) (h2 : ∀ x ∈ xs, p x = true → BE X scope elt (setD δ js (enc x)) fun y => y = f x) (hk : k ((xs.filter p).map f)) : Turns X scope [cnd] elt js δ us k := by
  subst hu
  refine ⟨fun i acc => acc = ((xs.take i).filter p).map f, by simpa using hl, by simp, fun i ds acc hi hI => ?_, fun acc hI => ?_⟩
  · rw [List.getElem?_map] at hi
    cases e : xs[i]? with
    | none => rw [e] at hi; cases hi
    | some x =>
      rw [e] at hi
      cases hi
      intro s H C cl fp σ H2 W ok R Q q
      refine h x (List.mem_of_getElem? e) s H C cl fp σ H2 W ok R Q fun t W' H' ht le => q t W' H' ?_ le
      subst ht
      cases hp : p x with
      | true =>
        intro s H C cl fp
        refine (h2 x (List.mem_of_getElem? e) hp s H C cl fp).imp fun y hy => ?_
        show acc ++ [y] = ((xs.take (i + 1)).filter p).map f
        rw [hI, hy, List.take_add_one, e, List.filter_append, List.map_append]
        simp [hp]
      | false =>
        show acc = ((xs.take (i + 1)).filter p).map f
        rw [hI, List.take_add_one, e, List.filter_append, List.map_append]
        simp [hp]
  · have hI : acc = ((xs.take (xs.map enc).length).filter p).map f := hI
    rw [hI, List.length_map, List.take_length]; exact hk
/-- all that is made has a property -/
theorem turns_all {js : List Nat} {k : List D → Prop} {us : List (List D)} (P : D → Prop) (hl : us.length < 100000)
    (h : ∀ ds ∈ us, BE X scope elt (setD δ js ds) P) (hk : ∀ ys, ys.length = us.length → (∀ y ∈ ys, P y) → k ys) : Turns X scope [] elt js δ us k := by
  refine ⟨fun i acc => acc.length = i ∧ ∀ y ∈ acc, P y, hl, ⟨rfl, fun y hy => by cases hy⟩, fun i ds acc hi hI => ?_, fun acc hI => hk acc hI.1 hI.2⟩
  intro s H C cl fp
  refine (h ds (List.mem_of_getElem? hi) s H C cl fp).imp fun y hy => ⟨by simp [hI.1], fun z hz => ?_⟩
  rcases List.mem_append.mp hz with hz | hz
  · exact hI.2 z hz
  · rw [List.mem_singleton.mp hz]; exact hy

/-! ### for -/
theorem ds_for {body : List Stmt} {E : DEnd} {tup : Bool} {js : List Nat} (hp : PassesOwn (model X.prog X.w) X.A X.env X.xe) (hc : X.calm = true) (hg : PG X tg (tgG X.K tup js))
    (it : DIs X tg iter tup js δ fun us => ∃ I : Nat → DS → Prop, I 0 δ ∧ (∀ (i : Nat) (ds : List D) (δ' : DS), us[i]? = some ds → I i δ' → DSs X body (setD δ' js ds) { nx := I (i + 1), rt := E.rt, bk := E.nx, ct := I (i + 1) }) ∧ ∀ δ', I us.length δ' → E.nx δ')
    (hs : ∀ x, foldedSetIterable iter X.env x = pure x := by intro _; rfl) : DSt X (.For tg iter body [] pos) δ E := fun W0 H0 G W H σ at_ Z z => by
  obtain ⟨wi, hpi, hr⟩ := it
  refine wS_of (ps_for hp hc hpi hg pss_w hs) ?_
  refine hr σ H W at_.le.ok at_.r _ fun J us W1 H1 ⟨I, h0, hst, hd⟩ le1 st => ?_
  have a1 := at_.go le1
  -- what the walk leans on
  let G1 := hid W1.O H1
  have b1 : At W0 H0 G1 W1 H1 σ δ := ⟨a1.hb, a1.le, .rfl', a1.r⟩
  have gG : Sub G G1 := a1.g
  refine ⟨fun i m σ' H' => m = us.length - i ∧ i ≤ us.length ∧ ∃ δ' W', I i δ' ∧ At W0 H0 G1 W' H' σ' δ', ⟨us.length, by simp, Nat.zero_le _, δ, W1, h0, b1⟩, ?_⟩
  rintro i m σ' H' ⟨rfl, hi, δ', W', hI, a'⟩
  have s' := st W' H' a'.le.ok a'.g trivial i
  have low : ∀ {δ2 σ2 W2 H2}, At W0 H0 G1 W2 H2 σ2 δ2 → At W0 H0 G W2 H2 σ2 δ2 := fun {δ2 σ2 W2 H2} x => ⟨x.hb, x.le, gG.tr x.g, x.r⟩
  by_cases hlt : i < us.length
  · obtain ⟨go, yl⟩ := s'.1 _ (List.getElem?_eq_getElem hlt)
    refine .inr ⟨go, fun σ2 H2 => i + 1 ≤ us.length ∧ ∃ δ2 W2, I (i + 1) δ2 ∧ At W0 H0 G1 W2 H2 σ2 δ2, fun σ2 H2 ⟨h1, h2⟩ => ⟨us.length - (i + 1), by omega, rfl, h1, h2⟩, fun x H2 hy => ?_⟩
    obtain ⟨le2, tgr⟩ := yl x H2 hy
    refine tgr σ' _ fun vs hv rv => ?_
    have a2 := a'.go le2
    have a3 : At W0 H0 G1 W' H2 (setV σ' js vs) (setD δ' js us[i]) := ⟨a2.hb, a2.le, a2.g, rep_setV le2.ok js _ _ _ _ a2.r rv⟩
    exact hst i _ δ' (List.getElem?_eq_getElem hlt) hI W0 H0 G1 W' H2 _ a3 _ ⟨fun δ2 σ2 W2 H2 hn x => ⟨hlt, δ2, W2, hn, x⟩, z.rt, fun δ2 σ2 W2 H2 hn x => z.nx _ _ _ _ hn (low x), fun δ2 σ2 W2 H2 hn x => ⟨hlt, δ2, W2, hn, x⟩⟩
  · have e : i = us.length := by omega
    subst e
    exact .inl ⟨s'.2 rfl, z.nx _ _ _ _ (hd δ' hI) (low a')⟩

/-! ### dict comprehensions: whole numbers as keys, each once -/
def putI (kvs : List (Int × D)) (i : Int) (d : D) : List (Int × D) := kvs ++ [(i, d)]
theorem dv_dc {own : List (Str × Nat)} {tup : Bool} {js : List Nat} {k : S → Prop} {kx vx : Expr} (hc : X.calm = true) (nd : X.N.Nodup) (ok : BlkOk X.N X.env.scope scope own) (hjs : own.map (·.2) = js) (hnd : js.Nodup) (hg : TgOk X scope tg tup js)
    (it : DI X tg iter tup js δ fun us => ∃ kvs : List (Int × D), us.length = kvs.length ∧ us.length < 100000 ∧ (kvs.map (·.1)).Nodup ∧ (∀ (i : Nat) (ds : List D) (p : Int × D), us[i]? = some ds → kvs[i]? = some p → BE X scope kx (setD δ js ds) (fun y => y = .int p.1) ∧ BE X scope vx (setD δ js ds) (fun y => y = p.2)) ∧ k (.tab kvs))
    (hs : ∀ x, foldedSetIterable iter X.env x = pure x := by intro _; rfl) : DV X (.DictComp kx vx [⟨tg, iter, [], 0⟩] scope pos) δ k := fun σ H W wok R Q q => by
  subst hjs
  obtain ⟨wi, hp, hr⟩ := it
  refine wE_of (pe_dc hc nd hp ok hg (pts_wb (X := X) (ifs := [])) (pe_wb (X := X) (e := kx)) (pe_wb (X := X) (e := vx)) hs) ?_
  refine hr σ H W wok R _ fun J us W1 H1 ⟨kvs, hlen, hsm, hnk, hst, hk⟩ le1 st Dl hD => ?_
  have wok1 := le1.ok
  have R1 := R.le le1
  have le0 : Le W1 H1 (W1.add Dl) (upd H1 Dl (.dK [])) := .own wok1 hD
  have hDO : Dl ∉ W1.O := fun z => wok1.there Dl z hD
  refine ⟨fun i m H2 => m = us.length - i ∧ i ≤ us.length ∧ ∃ W2 ws, Le W1 H1 W2 H2 ∧ Dl ∈ W2.O ∧ H2 Dl = some (.dK ws) ∧ TabR (hid W2.O H2) ws (kvs.take i),
    ⟨us.length, by simp, Nat.zero_le _, W1.add Dl, [], le0, List.mem_cons_self, upd_same, rfl, .nil⟩, ?_⟩
  rintro i m H2 ⟨rfl, hi, W2, ws, le2, hO2, hl2, r2⟩
  have s2 := st W2 H2 le2.ok le2.hid le2.keep i
  by_cases hlt : i < us.length
  · obtain ⟨go, yl⟩ := s2.1 _ (List.getElem?_eq_getElem hlt)
    have hlt' : i < kvs.length := by omega
    refine .inr ⟨go, fun H' => i + 1 ≤ us.length ∧ ∃ W3 ws, Le W1 H1 W3 H' ∧ Dl ∈ W3.O ∧ H' Dl = some (.dK ws) ∧ TabR (hid W3.O H') ws (kvs.take (i + 1)), fun H' ⟨a1, a2⟩ => ⟨us.length - (i + 1), by omega, rfl, a1, a2⟩, fun x H' hy => ?_⟩
    obtain ⟨le3, tgr⟩ := yl x H' hy
    refine tgr (wipe σ (own.map (·.2))) _ fun vs hw rw_ => ?_
    refine ⟨wipe_setV σ _ vs, ?_⟩
    rw [setV_wipe _ vs σ hw hnd]
    have R3 := rep_setV le3.ok (own.map (·.2)) _ _ _ _ (R1.le (le2.tr le3)) rw_
    have hDM : Dl ∉ W1.M := fun z => hDO (wok1.bo _ (wok1.mb _ z))
    obtain ⟨hkx, hvx⟩ := hst i _ _ (List.getElem?_eq_getElem hlt) (List.getElem?_eq_getElem hlt')
    show wEb X scope kx _ _ _
    refine be_run hkx le3.ok R3 _ fun v d W4 H4 ed le4 r4 => ?_
    subst ed
    cases r4
    refine be_run hvx le4.ok (R3.le le4) _ fun v2 d2 W5 H5 ed le5 r5 => ?_
    subst ed
    have m2 := le2.m
    have hl5 : H5 Dl = some (.dK ws) := le5.keep _ _ (by rw [le4.m, le3.m, m2]; exact hDM) (le4.keep _ _ (by rw [le3.m, m2]; exact hDM) (le3.keep _ _ (by rw [m2]; exact hDM) hl2))
    have r5' : TabR (hid W5.O H5) ws (kvs.take i) := ⟨r2.1, ((r2.2.mono le3.hid).mono le4.hid).mono le5.hid⟩
    have hO5 : Dl ∈ W5.O := le5.sub _ (le4.sub _ (le3.sub _ hO2))
    have leA := (((le2.tr le3).tr le4).tr le5)
    have hB5 : Dl ∉ W5.B := le_notB leA hDO
    have wl : ws.length = i := by
      have := congrArg List.length r5'.1
      rw [List.length_map, List.length_map, List.length_take] at this
      omega
    have fresh : valV ws (Sum.inl (kvs[i]).1) = none := by
      have t := tab_val r5' (kvs[i]).1
      have nf : (kvs.take i).find? (fun p => decide (p.1 = (kvs[i]).1)) = none := by
        rw [List.find?_eq_none]
        intro p hp hpe
        have hpe := of_decide_eq_true hpe
        obtain ⟨j, hj, ej⟩ := List.getElem_of_mem hp
        rw [List.length_take] at hj
        have hj2 : j < i := by omega
        rw [List.getElem_take] at ej
        have e1 : (kvs.map (·.1))[j]'(by rw [List.length_map]; omega) = (kvs.map (·.1))[i]'(by rw [List.length_map]; exact hlt') := by
          rw [List.getElem_map, List.getElem_map, ej, hpe]
        have := (List.getElem_inj hnk).mp e1
        omega
      rw [nf] at t
      exact t
    have leB : Le W1 H1 W5 (upd H5 Dl (.dK (putK ws (Sum.inl (kvs[i]).1) v2))) := by
      refine ⟨leA.b, leA.m, leA.sub, leA.new, fun b o hb e => ?_, leA.ok0, leA.ok.write hO5 hB5⟩
      rw [upd_ne (ne_of_none e hD)]; exact leA.keep b o hb e
    refine ⟨ws, Sum.inl (kvs[i]).1, rfl, hl5, small_lineT (by omega), hlt, W5, _, leB, hO5, upd_same, ?_⟩
    rw [putK_new _ fresh, hid_upd hO5]
    have et : kvs.take (i + 1) = kvs.take i ++ [kvs[i]] := by rw [List.take_add_one, List.getElem?_eq_getElem hlt']; rfl
    rw [et]
    refine ⟨by rw [List.map_append, List.map_append, r5'.1]; rfl, ?_⟩
    rw [List.map_append, List.map_append]
    exact r5'.2.app (.one r5)
  · have e : i = us.length := by omega
    subst e
    refine .inl ⟨s2.2 rfl, ?_⟩
    have leS := le2.show_ hDO
    refine q (.ref Dl) (.tab kvs) _ H2 hk (le1.tr leS) ⟨Dl, ws, rfl, hid_of (fun z => of_decide_eq_true (List.mem_filter.mp z).2 rfl) hl2, ?_⟩ trivial
    have e2 : kvs.take us.length = kvs := by rw [hlen, List.take_length]
    rw [e2] at r2
    exact ⟨r2.1, r2.2.mono (hid_less fun a ha => (List.mem_filter.mp ha).1)⟩
end
end Dt

/-! Dat7: enumerate over a tuple; zip of a list and a tuple; sorted(set(..)); any of a tuple. -/
namespace Dt
open PySem PySem.Spec L2 PyProof.Rows

/-! ### enumerate of a tuple -/
def ItE (K : PySem.W.Frag) (a : Addr) : It where
  go := fun i H => ∃ (xs : List V) (x : V), SqT K H a xs ∧ xs[i]? = some x
  yld := fun i H v H' => ∃ T x, v = .ref T ∧ H T = none ∧ H' = upd H T (.tup [.int (i : Nat), x]) ∧ ∀ xs, SqT K H a xs → xs[i]? = some x
  stop := fun i H => ∃ xs : List V, SqT K H a xs ∧ xs.length ≤ i
theorem cls_ne {s t : String} (h : s ≠ t) : Value.type s ≠ Value.type t := fun e => h (Value.type.inj e)
theorem two_mem {α : Type} {b e it : α} (hb : b ∈ [e, it]) : b = e ∨ b = it := by simpa using hb
theorem turnE {P : Program} {w : World} {K : PySem.W.Frag} {elts : List Expr} {kk : Nat} {tpos : Pos} (a e it : Addr) :
    Turn P w K (.Tuple elts kk tpos) (ItE K a) [e, it] e (fun i h => (∃ old, IsEnum h e it ((i : Nat) : Int) old) ∧ h.IsTupleIter it a i ∧ e ≠ it) := by
  refine ⟨List.mem_cons_self, ?_, ?_, ?_, ?_, fun A i s Q E st h => wpAny_pyIter_enum (Classical.choose_spec st.1) h⟩
  · rintro i h ⟨⟨old, e1⟩, ⟨o, e2, _, e3⟩, _⟩ b hb
    rcases two_mem hb with z | z <;> subst z
    · exact ⟨_, e1, fun v q => nomatch q⟩
    · exact ⟨o, e2, fun v q => by rw [e3] at q; cases q⟩
  · rintro i h h' ⟨⟨old, e1⟩, e2, ne⟩ k
    exact ⟨⟨old, k e List.mem_cons_self _ e1⟩, e2.at fun o q => k it (by simp) o q, ne⟩
  · rintro X rfl rfl rfl hc i pins s σ H E I hf ⟨⟨old, e1⟩, e2, ne⟩ ⟨xs, x, hq, hx⟩
    obtain ⟨its, rv, p, _⟩ := I.tuple hq
    obtain ⟨u, hu, ru⟩ := rv.get hx
    have lt1 : e < s.heap.objs.size := Heap.lt_size e1
    have lt2 : it < s.heap.objs.size := by obtain ⟨_, q, _⟩ := e2; exact Heap.lt_size q
    have hilt : i < its.toArray.size := by rw [List.size_toArray]; exact (List.getElem?_eq_some_iff.mp hu).1
    have nea : e ≠ a := fun z => by obtain ⟨o, q, q2, _⟩ := p; rw [← z, e1] at q; cases q; exact cls_ne (by decide) q2
    have nia : a ≠ it := fun z => by obtain ⟨o, q, q2, _⟩ := p; obtain ⟨o2, r, r2, _⟩ := e2; rw [z, r] at q; cases q; rw [r2] at q2; exact cls_ne (by decide) q2
    refine wpAny_pyNext_enum_itemD (Draws.tuple (A := X.A.in1) (by simpa using I.ok.hd hc) it a nia its.toArray) e1 ⟨e2, p⟩ hilt ne (fun z => (two_mem z).elim ne nea) fun y h' tk hy ho st2 hT hsz hk => ?_
    have ey : u = y := by
      have : its.toArray[i]? = some u := by simpa using hu
      rw [this] at hy
      exact Option.some.inj hy
    subst ey
    refine ⟨_, rfl, wpAny_letOwnedTupleGo_enum (s := { s with heap := h', toks := tk + 1 }) ho fun h2 he2 sb => ?_⟩
    have hT2 : h2.get? s.heap.objs.size = some { cls := .type "tuple", data := .seq #[.int i tk, u] } := (sb.2 _ (Nat.ne_of_gt lt1)).trans hT
    have I1 : Inv X pins σ (upd H s.heap.objs.size (.tup [.int (i : Nat), x])) { s with heap := h2, toks := tk + 1 } :=
      I.turnedNew (ch := [e, it]) (fun b ob hb q => (sb.2 b fun z => hb (z ▸ List.mem_cons_self)).trans (hk b ob (fun z => hb (z ▸ List.mem_cons_self)) (fun z => hb (by rw [z]; simp)) q)) hf (Nat.le_refl _)
        ⟨by show 2 ≤ sizeLine; decide, [.int i tk, u], .cons ⟨_, rfl⟩ (.cons ru .nil), _, hT2, rfl, _, rfl⟩
    refine ⟨.ref s.heap.objs.size, _, I1, rfl, ⟨_, x, rfl, I.hok.fresh (Nat.le_refl _), rfl, fun ys hy => by rw [I.tuple_inj hy hq]; exact hx⟩, ⟨⟨u, ?_⟩, st2.1.at fun o q => (sb.2 it (Ne.symm ne)).trans q, ne⟩, fun b hb => ?_⟩
    · rw [show ((i + 1 : Nat) : Int) = (i : Int) + 1 from by omega]
      exact he2
    · have lb : b < s.heap.objs.size := by rcases two_mem hb with z | z <;> subst z <;> assumption
      rw [upd_ne (Nat.ne_of_lt lb)]
      exact (hf b hb).1
  · rintro X rfl rfl rfl hc i pins s σ H E I hf ⟨⟨old, e1⟩, e2, ne⟩ ⟨xs, hq, hx⟩
    obtain ⟨its, rv, p, _⟩ := I.tuple hq
    obtain ⟨f0, f1, _, f3, f4, f5⟩ := hf it (by simp)
    have hl := rv.length
    have nia : a ≠ it := fun z => by obtain ⟨o, q, q2, _⟩ := p; obtain ⟨o2, r, r2, _⟩ := e2; rw [z, r] at q; cases q; rw [r2] at q2; exact cls_ne (by decide) q2
    have hT : s.TypeIs (.ref e) "enumerate" := ⟨_, e1, rfl⟩
    unfold pyNext
    refine wpAny_bind (wpAny_attempt (wpAny_callSpecial?_slot (name := Str.ofString "__next__") hT PySem.F.slot_enumerate_next (wpAny_call_entry PySem.F.slot_enumerate_next hT PySem.F.entry_enumerate_next ?_ (PySem.F.args_enumerate_next_1 _))))
    show wpAny _ _ (field (.ref e) 2 >>= _) _ _ _
    refine wpAny_bind (wpAny_field e1 rfl (x := .ref it) rfl (wpAny_bind (wpAny_nextOf_tuple_end (I.ok.hd hc) e2 p (by simp; omega) fun h' x hb' ⟨o, ho, hcl⟩ => ?_)))
    refine wpAny_bind (wpAny_isInstance (T := "StopIteration") (b := true) ⟨o, ho, hcl⟩ isSubtype_stop (wpAny_pure ⟨rfl, I.turned (t' := s.toks) (fun b o hb q => hb' b o hb q) f0 f1 f3 f4 f5⟩))
theorem meets_enT {a : Addr} (items : Array Value) (n : Nat) (dct : Option Addr) (sl : Array (Option Value)) :
    Meets (Builtin.«enumerate.__new__» ⟨[.type "enumerate", .ref a], []⟩) (fun _ R s => s.heap.get? a = some { cls := .type "tuple", dict := dct, data := .seq items n, slots := sl } ∧
      R (.ok (.ret (.ref (s.heap.push { cls := .type "tuple_iterator", data := .fields #[.ref a, .int 0 0] }).objs.size)))
        { s with heap := (s.heap.push { cls := .type "tuple_iterator", data := .fields #[.ref a, .int 0 0] }).push { cls := .type "enumerate", data := .fields #[.none, .bool false, .ref s.heap.objs.size, rawInt 0, .none, .none] } }) :=
  .of_wp fun prog w A R s h => by
    obtain ⟨hp, g, d, tk, os⟩ := s; obtain ⟨hl, h⟩ := h
    have hsub := sub_enumerate
    have hT : Heap.IsTuple (Shared.heap ⟨hp, g, d, tk, os⟩) a items := ⟨_, hl, rfl, n, rfl⟩
    wp_walk using AutoSeq1.wpAny_loadPart' hl
    refine wpAny_stack_any fun st => wpAny_pure ?_
    split
    · rename_i c _ _ _ _ _
      cases (c == Value.type "enumerate") <;> (wp_walk using AutoSeq1.wpAny_loadPart' hl, wpAny_pyIter_tuple hT; exact ⟨_, rfl, h⟩)
    · wp_walk using AutoSeq1.wpAny_loadPart' hl, wpAny_pyIter_tuple hT
      exact ⟨_, rfl, h⟩
theorem call_enT {prog : Program} {w : World} {A : Around} {E : Value → Shared → Prop} {s : Shared} {a : Addr} {items : Array Value} {Q : Value → Shared → Prop} (hT : s.heap.IsTuple a items)
    (h : ∀ h', IsEnum h' (s.heap.objs.size + 1) s.heap.objs.size 0 .none → h'.IsTupleIter s.heap.objs.size a 0 → (∀ b o, s.heap.get? b = some o → h'.get? b = some o) → Q (.ref (s.heap.objs.size + 1)) { s with heap := h' }) :
    wpAny (model prog w) A (call (.type "enumerate") [.ref a]) Q E s := by
  obtain ⟨⟨c, dct, dt, sl⟩, hl, hc, n, hd⟩ := hT
  obtain rfl : c = .type "tuple" := hc
  obtain rfl : dt = .seq items n := hd
  refine callType_new PySem.F.called_enumerate (by decide) (PySem.F.typeCall_enumerate_1 _) (PySem.F.newCall_enumerate_1 _) (fun obj => PySem.F.args_object_init_2 obj _) PySem.F.entry_enumerate_new (meets_enT items n dct sl) ⟨hl, ?_⟩
  generalize hs1 : s.heap.push { cls := .type "tuple_iterator", data := .fields #[.ref a, .int 0 0] } = s1
  have z1 : s1.objs.size = s.heap.objs.size + 1 := by rw [← hs1, Heap.size_push]
  have g1 : s1.get? s.heap.objs.size = some { cls := .type "tuple_iterator", data := .fields #[.ref a, .int 0 0] } := by rw [← hs1]; exact Heap.get?_push_size _ rfl
  have k1 : ∀ b o, s.heap.get? b = some o → s1.get? b = some o := fun b o q => by rw [← hs1]; exact Heap.get?_push_of_some _ q
  have g2 := Heap.get?_push_size s1 (o := { cls := .type "enumerate", data := .fields #[.none, .bool false, .ref s.heap.objs.size, rawInt 0, .none, .none] }) rfl
  rw [z1] at g2
  show _ ∧ _
  rw [z1]
  exact ⟨⟨_, g2, rfl⟩, h _ g2 ⟨_, Heap.get?_push_of_some _ g1, rfl, rfl⟩ fun b o q => Heap.get?_push_of_some _ (k1 b o q)⟩
def iEn (K : PySem.W.Frag) (ta : TA) : TI := fun σ H R => ta σ H fun vs H1 => ∃ a xs, vs = [.ref a] ∧ SqT K H1 a xs ∧ R (ItE K a) H1
section
variable {X : Cx} {e a b c : Expr} {δ : DS} {pos : Pos}
theorem pi_en {ta : TA} {p tpos : Pos} {elts : List Expr} {kk : Nat} (hg : Gl X "enumerate") (hm : X.mg "enumerate" = none) (ha : PA X [e] ta) (hs : starEach [e] X.env = [(false, eval e X.env)]) :
    PI X (.Tuple elts kk tpos) (.Call (.Name "enumerate" p) [e] [] pos) (iEn X.K ta) := by
  refine ⟨fun pins s σ H R I h => Call_ (ld_blt I hg hm boot_enumerate (PyProof.Rows.callWith_type1 (thn (ha.run pos pins s σ H _ I h) fun us s1 ⟨vs, H1, I1, r1, a, xs, ex, hq, q⟩ => ?_) hs rfl))⟩
  subst ex
  have r1 := r1.ref1
  subst r1
  obtain ⟨its, rv, p', _⟩ := I1.tuple hq
  refine call_enT p' fun h' e1 e2 hk => wpAny_pyIter_enum e1 ⟨s1.heap.objs.size + 1, [s1.heap.objs.size + 1, s1.heap.objs.size], _, _, H1, rfl, I1.kept (t' := s1.toks) hk, turnE a _ _, ⟨⟨.none, e1⟩, e2, Nat.succ_ne_self _⟩, fun b hb => ?_, q⟩
  have hle : s1.heap.objs.size ≤ b := by
    rcases two_mem hb with z | z <;> subst z
    · exact Nat.le_succ _
    · exact Nat.le_refl _
  exact I1.fpOk hle (I1.hok.fresh hle)
/-- i, x in enumerate(t) -/
def enumD (ds : List D) : List (List D) := twos (rngD 0 1 ds.length) ds
theorem dis_enum (j1 j2 : Nat) {p tpos : Pos} {elts : List Expr} {kk : Nat} {k : List (List D) → Prop} (hm : X.mg "enumerate" = none) (h : DE X a δ fun x => ∃ ds, x = .tuple ds ∧ k (enumD ds)) (hg : Gl X "enumerate" := by rfl)
    (hs : starEach [a] X.env = [(false, eval a X.env)] := by rfl) : DIs X (.Tuple elts kk tpos) (.Call (.Name "enumerate" p) [a] [] pos) true [j1, j2] δ k :=
  ⟨_, pi_en hg hm (pa_cons pe_w pa_nil (by rw [hs]; rfl)) hs, fun σ H W ok R R' q => h σ H W ok R _ fun v d W1 H1 ⟨ds, ed, hk⟩ e1 r1 => by
    subst ed
    cases r1 with
    | @tup l vs _ g1 g2 =>
      refine ⟨l, vs, rfl, SqT.of (hid_some g1).2, q _ _ W1 H1 hk e1 ?_⟩
      intro W3 H3 ok3 g _ i
      have c1 := (hid_some (g _ _ g1)).2
      refine ⟨fun u hu => ?_, stop_le fun hi => ⟨vs, SqT.of c1, ?_⟩⟩
      · obtain ⟨d, e, hd, he, eu⟩ := twos_get hu
        obtain ⟨hi, ed⟩ := rngD_get hd
        subst eu ed
        obtain ⟨x, hx, rx⟩ := g2.get he
        refine ⟨⟨vs, x, SqT.of c1, hx⟩, fun z H4 ⟨T, x', ez, hT, eH, hx'⟩ => ?_⟩
        have a1 := hx' vs (SqT.of c1)
        rw [hx] at a1
        cases a1
        subst ez eH
        refine pair_step ok3 hT ?_ (rx.mono g)
        rw [Int.mul_one, Int.zero_add]
        exact .int _
      · have hl : (enumD ds).length = ds.length := by simp [enumD, twos, rngD_len]
        rw [hl] at hi
        rw [g2.len]
        exact hi⟩
end

/-! ### zip of a list and a tuple -/
def ItZ (K : PySem.W.Frag) (a b : Addr) : It where
  go := fun i H => ∃ (xs ys : List V) (x y : V), SqL K H a xs ∧ SqT K H b ys ∧ xs[i]? = some x ∧ ys[i]? = some y
  yld := fun i H v H' => ∃ T x y, v = .ref T ∧ H T = none ∧ H' = upd H T (.tup [x, y]) ∧ (∀ xs, SqL K H a xs → xs[i]? = some x) ∧ ∀ ys, SqT K H b ys → ys[i]? = some y
  stop := fun i H => ∃ xs ys : List V, SqL K H a xs ∧ SqT K H b ys ∧ xs.length = ys.length ∧ xs.length = i
theorem five_mem {α : Type} {c z1 z2 z3 z4 z5 : α} (h : c ∈ [z1, z2, z3, z4, z5]) : c = z1 ∨ c = z2 ∨ c = z3 ∨ c = z4 ∨ c = z5 := by simpa using h
theorem turnZ {P : Program} {w : World} {K : PySem.W.Frag} {elts : List Expr} {kk : Nat} {tpos : Pos} {a b z TI TO i1 i2 : Addr} (D : ZipApart z TI TO i1 i2 a b) (ab : a ≠ i1 ∧ b ≠ i2 ∧ i1 ≠ b ∧ i2 ≠ a) :
    Turn P w K (.Tuple elts kk tpos) (ItZ K a b) [z, TI, TO, i1, i2] z (fun i h => IsZip h z TI TO .none ∧ IsPair h TI (.ref i1) (.ref i2) ∧ (∃ x y, IsPair h TO x y) ∧ h.IsListIter i1 a i ∧ h.IsTupleIter i2 b i) := by
  obtain ⟨ai1, bi2, i1b, i2a⟩ := ab
  have sep : ZipSep2 z TI TO i1 i2 [i1, a] [i2, b] := by
    refine ⟨D.TIz, D.TOz, D.TITO, D.TIi1, List.mem_cons_self, fun h => ?_, fun h => ?_, D.TIi2, List.mem_cons_self, fun h => ?_, fun h => ?_, fun h => ?_, fun h => ?_⟩
    · exact (two_mem h).elim (fun q => D.i1z q.symm) fun q => D.l1z q.symm
    · exact (two_mem h).elim D.TOi1 fun q => D.l1TO q.symm
    · exact (two_mem h).elim (fun q => D.i2z q.symm) fun q => D.l2z q.symm
    · exact (two_mem h).elim D.TOi2 fun q => D.l2TO q.symm
    · exact (two_mem h).elim D.i12 i1b
    · exact (two_mem h).elim (fun q => D.i12 q.symm) i2a
  refine ⟨List.mem_cons_self, ?_, ?_, ?_, ?_, fun A i s Q E st h => wpAny_pyIter_zip st.1 h⟩
  · rintro i h ⟨hz, hTI, ⟨x, y, hTO⟩, ⟨o1, e1, _, d1⟩, ⟨o2, e2, _, d2⟩⟩ c hc
    rcases five_mem hc with q | q | q | q | q <;> subst q
    · exact ⟨_, hz, fun v q => nomatch q⟩
    · exact ⟨_, hTI, fun v q => nomatch q⟩
    · exact ⟨_, hTO, fun v q => nomatch q⟩
    · exact ⟨o1, e1, fun v q => by rw [d1] at q; cases q⟩
    · exact ⟨o2, e2, fun v q => by rw [d2] at q; cases q⟩
  · rintro i h h' ⟨hz, hTI, ⟨x, y, hTO⟩, h1, h2⟩ k
    exact ⟨k z (by simp) _ hz, k TI (by simp) _ hTI, ⟨x, y, k TO (by simp) _ hTO⟩, h1.at fun o q => k i1 (by simp) o q, h2.at fun o q => k i2 (by simp) o q⟩
  · rintro X rfl rfl rfl hc i pins s σ H E I hf ⟨hz, hTI, ⟨x0, y0, hTO⟩, h1, h2⟩ ⟨xs, ys, x, y, hqx, hqy, hx, hy⟩
    obtain ⟨its, rv, p, _⟩ := I.list hqx
    obtain ⟨its2, rv2, p2, _⟩ := I.tuple hqy
    obtain ⟨u, hu, ru⟩ := rv.get hx
    obtain ⟨u2, hu2, ru2⟩ := rv2.get hy
    have hzl : z < s.heap.objs.size := Heap.lt_size hz
    have hA : X.A.in1.handled = none := by simpa using I.ok.hd hc
    refine wpAny_pyNext_zipD2_item sep (Draws.list hA i1 a ai1 its.toArray) (Draws.tuple hA i2 b bi2 its2.toArray) hz hTI hTO ⟨h1, p.isList⟩ ⟨h2, p2⟩ (by rw [List.size_toArray]; exact (List.getElem?_eq_some_iff.mp hu).1) (by rw [List.size_toArray]; exact (List.getElem?_eq_some_iff.mp hu2).1)
      fun y1 y2 h' tk q1 q2 z' TO' s1 s2 hT hsz hk => ?_
    have ey1 : u = y1 := by
      have : its.toArray[i]? = some u := by simpa using hu
      rw [this] at q1
      exact Option.some.inj q1
    have ey2 : u2 = y2 := by
      have : its2.toArray[i]? = some u2 := by simpa using hu2
      rw [this] at q2
      exact Option.some.inj q2
    subst ey1 ey2
    refine ⟨_, rfl, wpAny_letOwnedTupleGo_zip (s := { s with heap := h', toks := tk }) z' fun h2' z2' sb => ?_⟩
    have hT2 : h2'.get? s.heap.objs.size = some { cls := .type "tuple", data := .seq #[u, u2] } := (sb.2 _ (Nat.ne_of_gt hzl)).trans hT
    have out : ∀ {c : Addr}, c ∉ [z, TI, TO, i1, i2] → c ≠ z ∧ c ≠ TO ∧ c ≠ i1 ∧ c ≠ i2 := fun {c} hb => by
      simp only [List.mem_cons, List.not_mem_nil, or_false, not_or] at hb
      exact ⟨hb.1, hb.2.2.1, hb.2.2.2.1, hb.2.2.2.2⟩
    have I1 : Inv X pins σ (upd H s.heap.objs.size (.tup [x, y])) { s with heap := h2', toks := tk } :=
      I.turnedNew (ch := [z, TI, TO, i1, i2]) (fun c o hb q => let ⟨o1, o2, o3, o4⟩ := out hb; (sb.2 c o1).trans (hk c o o1 o2 o3 o4 q)) hf (Nat.le_refl _)
        ⟨by show 2 ≤ sizeLine; decide, [u, u2], .cons ru (.cons ru2 .nil), _, hT2, rfl, _, rfl⟩
    refine ⟨.ref s.heap.objs.size, _, I1, rfl, ⟨_, x, y, rfl, I.hok.fresh (Nat.le_refl _), rfl, fun l hl => by rw [I.list_inj hl hqx]; exact hx, fun l hl => by rw [I.tuple_inj hl hqy]; exact hy⟩,
      ⟨z2', (sb.2 _ D.TIz).trans (hk _ _ D.TIz D.TITO D.TIi1 D.TIi2 hTI), ⟨u, u2, (sb.2 _ D.TOz).trans TO'⟩, s1.1.at fun o q => (sb.2 _ D.i1z).trans q, s2.1.at fun o q => (sb.2 _ D.i2z).trans q⟩, fun c hcm => ?_⟩
    have hlt : c < s.heap.objs.size := by
      rcases five_mem hcm with q | q | q | q | q <;> subst q
      · exact hzl
      · exact Heap.lt_size hTI
      · exact Heap.lt_size hTO
      · obtain ⟨_, e1, _⟩ := h1; exact Heap.lt_size e1
      · obtain ⟨_, e2, _⟩ := h2; exact Heap.lt_size e2
    rw [upd_ne (Nat.ne_of_lt hlt)]
    exact (hf c hcm).1
  · rintro X rfl rfl rfl hc i pins s σ H E I hf ⟨hz, hTI, ⟨x0, y0, hTO⟩, h1, h2⟩ ⟨xs, ys, hqx, hqy, hl, hend⟩
    obtain ⟨its, rv, p, _⟩ := I.list hqx
    obtain ⟨its2, rv2, p2, _⟩ := I.tuple hqy
    have l1 := rv.length
    have l2 := rv2.length
    have hA : X.A.in1.handled = none := by simpa using I.ok.hd hc
    refine wpAny_pyNext_zipD2_end sep (Draws.list hA i1 a ai1 its.toArray) (Draws.tuple hA i2 b bi2 its2.toArray) hz hTI hTO ⟨h1, p.isList⟩ ⟨h2, p2⟩ (by simp; omega) (by simp; omega) (.inl (by simp; omega)) fun h' tk hk => ⟨rfl, ?_⟩
    refine I.turnedL (t' := tk) (ch := [z, TI, TO, i1, i2]) (fun c o hb q => ?_) hf
    simp only [List.mem_cons, List.not_mem_nil, or_false, not_or] at hb
    exact hk c o hb.1 hb.2.2.1 hb.2.2.2.1 hb.2.2.2.2 q
def iZm (K : PySem.W.Frag) (ta : TA) : TI := fun σ H R => ta σ H fun vs H1 => ∃ a b xs ys, vs = [.ref a, .ref b] ∧ SqL K H1 a xs ∧ SqT K H1 b ys ∧ R (ItZ K a b) H1
section
variable {X : Cx} {e a b c : Expr} {δ : DS} {pos : Pos}
theorem pi_zm {e2 : Expr} {ta : TA} {p tpos : Pos} {elts : List Expr} {kk : Nat} (hg : Gl X "zip") (hm : X.mg "zip" = none) (ha : PA X [e, e2] ta) (hs : starEach [e, e2] X.env = (false, eval e X.env) :: starEach [e2] X.env)
    (hpl : (backTo pos (starEach [e2] X.env)).any (·.1) = false) : PI X (.Tuple elts kk tpos) (.Call (.Name "zip" p) [e, e2] [] pos) (iZm X.K ta) := by
  refine ⟨fun pins s σ H R I h => Call_ (ld_blt I hg hm PyProof.Rows.boot_zip (PyProof.Rows.callWith_type1 (thn (ha.run pos pins s σ H _ I h) fun us s1 ⟨vs, H1, I1, r1, a, b, xs, ys, ex, hqx, hqy, q⟩ => ?_) hs hpl))⟩
  subst ex
  obtain ⟨u1, u2, rfl, ra, rb⟩ := r1.two
  obtain rfl : u1 = Value.ref a := ra
  obtain rfl : u2 = Value.ref b := rb
  obtain ⟨its, rv, p1, _⟩ := I1.list hqx
  obtain ⟨its2, rv2, p2, _⟩ := I1.tuple hqy
  have la : a < s1.heap.objs.size := p1.lt
  have lb : b < s1.heap.objs.size := p2.lt
  refine zip_begins2 (begins_list a its.toArray) (begins_tuple b its2.toArray) p1.isList p2 fun h' hz hTI hTO h1 h2 hsz hk => wpAny_pyIter_zip hz ?_
  refine ⟨s1.heap.objs.size + 4, [s1.heap.objs.size + 4, s1.heap.objs.size + 2, s1.heap.objs.size + 3, s1.heap.objs.size, s1.heap.objs.size + 1], _, _, H1, rfl, I1.kept (t' := s1.toks) hk,
    turnZ (PySem.W.ktu_apart s1.heap.objs.size a b la lb) ⟨Nat.ne_of_lt la, Nat.ne_of_lt (Nat.lt_succ_of_lt lb), Nat.ne_of_gt lb, Nat.ne_of_gt (Nat.lt_succ_of_lt la)⟩, ⟨hz, hTI, ⟨_, _, hTO⟩, ⟨_, h1, rfl, rfl⟩, ⟨_, h2, rfl, rfl⟩⟩, fun c hcm => ?_, q⟩
  have hle : s1.heap.objs.size ≤ c := by
    rcases five_mem hcm with z | z | z | z | z <;> subst z <;> first | exact Nat.le_refl _ | exact Nat.le_add_right _ _
  exact I1.fpOk hle (I1.hok.fresh hle)
theorem dis_zipM (j1 j2 : Nat) {p tpos : Pos} {elts : List Expr} {kk : Nat} {k : List (List D) → Prop} (hm : X.mg "zip" = none) (h : DE X a δ fun x => ∃ ds, x = .list ds ∧ DE X b δ fun y => ∃ es, y = .tuple es ∧ ds.length = es.length ∧ k (twos ds es)) (hg : Gl X "zip" := by rfl)
    (hs : starEach [a, b] X.env = (false, eval a X.env) :: starEach [b] X.env := by rfl) (hs2 : starEach [b] X.env = (false, eval b X.env) :: starEach [] X.env := by rfl) (hpl : (backTo pos (starEach [b] X.env)).any (·.1) = false := by rfl) : DIs X (.Tuple elts kk tpos) (.Call (.Name "zip" p) [a, b] [] pos) true [j1, j2] δ k :=
  ⟨_, pi_zm hg hm (pa_cons pe_w (pa_cons pe_w pa_nil hs2) hs) hs hpl, fun σ H W ok R R' q => h σ H W ok R _ fun v d W1 H1 ⟨ds, ed, hb⟩ e1 r1 => by
    subst ed
    refine hb σ H1 W1 e1.ok (R.le e1) _ fun v2 d2 W2 H2 ⟨es, ee, hl, hk⟩ e2 r2 => ?_
    subst ee
    have r1' := r1.mono e2.hid
    cases r1' with
    | @lst l1 vs _ g1 g2 =>
      cases r2 with
      | @tup l2 us _ f1 f2 =>
        refine ⟨l1, l2, vs, us, rfl, SqL.of (hid_some g1).2, SqT.of (hid_some f1).2, q _ _ W2 H2 hk (e1.tr e2) ?_⟩
        intro W3 H3 ok3 g _ i
        have c1 := (hid_some (g _ _ g1)).2
        have c2 := (hid_some (g _ _ f1)).2
        refine ⟨fun u hu => ?_, fun hi => ?_⟩
        · obtain ⟨d, e, hd, he, eu⟩ := twos_get hu
          subst eu
          obtain ⟨x, hx, rx⟩ := g2.get hd
          obtain ⟨y, hy, ry⟩ := f2.get he
          refine ⟨⟨vs, us, x, y, SqL.of c1, SqT.of c2, hx, hy⟩, fun z H4 ⟨T, x', y', ez, hT, eH, hx', hy'⟩ => ?_⟩
          have a1 := hx' vs (SqL.of c1)
          have a2 := hy' us (SqT.of c2)
          rw [hx] at a1; rw [hy] at a2
          cases a1; cases a2
          subst ez eH
          exact pair_step ok3 hT (rx.mono g) (ry.mono g)
        · have hl2 : (twos ds es).length = min ds.length es.length := by simp [twos]
          rw [hl2] at hi
          exact ⟨vs, us, SqL.of c1, SqT.of c2, by rw [g2.len, f2.len, hl], by rw [g2.len]; omega⟩⟩
end
end Dt

/-! Dat8: sorted(set(a list of ints)); any(a tuple of ints); a tuple once; list.pop in a pair; two clauses. -/
namespace Dt
open PySem PySem.Spec L2 PyProof.Rows

section
variable {P : Program} {w : World} {A : Around} {E : Value → Shared → Prop} {s : Shared}
set_option maxHeartbeats 8000000 in
theorem call_set_lsI {l : Addr} {items : Array Value} (ns : List Int) {Q : Value → Shared → Prop} (hh : A.handled = none) (hl : s.heap.IsList l items) (hit : IntsAre items.toList ns) (hb : ns.length + 1 < scanBound)
    (h : ∀ (h' : Heap) (tk c : Nat), SetR w h' s.heap.objs.size (fun j => decide (j ∈ ns)) c → c ≤ ns.length → (∀ b o, s.heap.get? b = some o → h'.get? b = some o) → Q (.ref s.heap.objs.size) { s with heap := h', toks := tk }) :
    wpAny (model P w) A (call (.type "set") [.ref l]) Q E s := by
  have hisz : items.size = ns.length := (Array.length_toList (xs := items)).symm.trans (IntsAre.length hit)
  obtain ⟨c, tl, hmro⟩ := PySem.F.called_set.mro
  have hmade := PySem.F.called_set.made
  have hsub := PySem.F.called_set.sub
  refine wpAny_call (codeAny_of_tree ?_)
  show wpAny _ _ (callAny (.type "set") _) _ _ _
  refine wpAny_pure ⟨Code.quiet_builtin _ (by decide +kernel), codeAny_builtin PySem.F.entry_type_call ?_⟩
  rw [Around.under_plain (weight_type_call_type "set" [.ref l] []) rfl]
  have h1 := PySem.F.called_set.notType
  have h2 := PySem.F.called_set.canCreate
  have hct := PySem.F.typeCall_set_1 (.ref l)
  repeat (any_goals (first | assumption | wp_step))
  let s0 : Obj := { cls := .type "set", dict := none, data := .set #[] 0 (.fresh 0 0 (!w.params.followText "set-order")) }
  refine codeAny_mono (code_set_led1 (.ref l) (E := E) (Q₁ := fun obj s₁ => obj = .ref s.heap.objs.size ∧ s₁ = { s with heap := s.heap.push s0 }) ⟨rfl, rfl⟩) fun r s₁ hr => ?_
  cases r with
  | error e => exact hr
  | ok fl =>
    cases fl with
    | ret obj =>
      obtain ⟨rfl, rfl⟩ := hr
      have hS : (s.heap.push s0).get? s.heap.objs.size = some s0 := Heap.get?_push_size _ rfl
      have hT : Shared.TypeIs { s with heap := s.heap.push s0 } (.ref s.heap.objs.size) "set" := ⟨_, hS, rfl⟩
      have hli := PySem.F.called_set.init.lookup
      have hbi := PySem.F.called_set.init.bind (.ref s.heap.objs.size)
      repeat (any_goals (first | assumption | wp_step))
      refine codeAny_mono (codeAny_call_builtin (R := wants (fun r s₂ => r = .none ∧ ∃ h' tk c, s₂ = { s with heap := h', toks := tk } ∧ SetR w h' s.heap.objs.size (fun j => decide (j ∈ ns)) c ∧ c ≤ ns.length ∧ (∀ b o, s.heap.get? b = some o → h'.get? b = some o)) E)
        PySem.F.called_set.init.plain PySem.F.entry_set_init (check_set_init_1 hT ?_)) fun r₂ s₂ hr₂ => ?_
      · obtain ⟨ol, hol, hcl, nl, hdl⟩ := hl
        obtain ⟨ocls, odict, odata, oslots⟩ := ol
        simp only at hcl hdl
        subst hcl; subst hdl
        have hol' : (s.heap.push s0).get? l = some { cls := .type "list", dict := odict, data := .seq items nl, slots := oslots } := Heap.get?_push_of_some _ hol
        have hsls := PySem.F.sub_list_set
        have hslf := PySem.F.sub_list_frozenset
        have hne : (Value.type "list" == Value.type "dict") = false := by decide
        have hl1 : (s.heap.push s0).IsList l items := ⟨_, hol', rfl, nl, rfl⟩
        unfold Builtin.«set.__init__» noKeywords Builtin.Frozenset.updateFrom
        generalize hPI : pyIter = PI
        wp_walk
        subst hPI
        refine wpAny_pyIter_list hl1 (wpAny_bind (wpAny_runValue ?_))
        have hlS : l < s.heap.objs.size := Heap.lt_size hol
        have hz : (s.heap.push s0).objs.size = s.heap.objs.size + 1 := Heap.size_push ..
        have hneI : l ≠ (s.heap.push s0).objs.size := by rw [hz]; exact Nat.ne_of_lt (Nat.lt_succ_of_lt hlS)
        have hSf : s.heap.objs.size ∉ [(s.heap.push s0).objs.size, l] := fun z => by
          rw [hz] at z
          exact (two_mem z).elim (Nat.ne_of_lt (Nat.lt_succ_self _)) (Nat.ne_of_gt hlS)
        have hval : ∀ (i : Nat) (v : Value), items[i]? = some v → ∃ k t, ns[i]? = some k ∧ v = .int k t := fun i v hv => by
          have hi : i < ns.length := by rw [← hisz]; exact (Array.getElem?_eq_some_iff.mp hv).1
          obtain ⟨t, e⟩ := PyProof.Rows.IntsAre.int_at hit i v (by rw [Array.getElem?_toList]; exact hv)
          refine ⟨ns[i], t, List.getElem?_eq_getElem hi, ?_⟩
          rw [e, List.getD_eq_getElem?_getD, List.getElem?_eq_getElem hi] <;> rfl
        refine set_update_ints ((Walks.list (by simp [hh]) _ l hneI items).toS) s.heap.objs.size hSf ns hisz hb hval (items.size - 0) 0 _ (by omega) (Nat.zero_le _) ⟨⟨_, Heap.get?_push_size _ rfl, rfl, rfl⟩, (hl1.push _)⟩ ?hS0 ?hR
        case hS0 => exact ⟨0, Nat.le_refl 0, setR_new_at (Heap.get?_push_of_some _ hS)⟩
        case hR =>
          intro s' c' hm hc' hS'
          obtain ⟨h', g2, d', tk', os'⟩ := s'
          obtain rfl : g2 = s.gens := hm.gens
          obtain rfl : d' = s.drawn := hm.drawn
          obtain rfl : os' = s.os := hm.os
          show wpAny _ _ _ _ _ _
          refine wpAny_pure ?_
          show wpAny _ _ (ret Value.none) _ _ _
          rw [hisz] at hc'
          refine wpAny_pure ⟨rfl, h', tk', c', rfl, hS', hc', fun b o e => ?_⟩
          have hb0 : b < s.heap.objs.size := Heap.lt_size e
          refine hm.heap b o (fun z => ?_) (Heap.get?_push_of_some _ (Heap.get?_push_of_some _ e))
          rw [hz] at z
          exact (two_mem z).elim (Nat.ne_of_lt hb0) (Nat.ne_of_lt (Nat.lt_succ_of_lt hb0))
      · cases r₂ with
        | error e => exact hr₂
        | ok fl₂ =>
          cases fl₂ with
          | ret r =>
            obtain ⟨rfl, h', tk, c', rfl, hS', hc', hk'⟩ := hr₂
            repeat (any_goals (first | assumption | wp_step))
            exact h _ _ _ hS' hc' hk'
          | _ => exact hr₂.elim
    | _ => exact hr.elim
end

/-- a set's ints in order -/
def rSetL (K : PySem.W.Frag) (w : World) : List V → Hp → VK → Prop := fun vs H Q => ∃ (l : Addr) (ns : List Int), vs = [.ref l] ∧ SqL K H l (ns.map V.int) ∧ ns.length ≤ 60 ∧
  ∀ p c, H p = none → c ≤ ns.length → Q (.ref p) (upd H p (SetO w p (fun j => decide (j ∈ ns)) c))
section
variable {X : Cx} {e a b c : Expr} {es : List Expr} {δ : DS} {pos : Pos}
theorem cr_setL (hc : X.calm = true) : CallR X (.type "set") (rSetL X.K X.w) := by
  intro pins s σ H vs us Q I r h
  obtain ⟨l, ns, rfl, hq, hl, q⟩ := h
  rw [Vals.ref1 r]
  obtain ⟨its, rv, p, _⟩ := I.list hq
  refine call_set_lsI ns (I.ok.hd hc) p.isList (by simpa using rv.ints) (by unfold scanBound; omega) fun h' tk c R hcl hk => ?_
  have hn := I.hok.fresh (Nat.le_refl _)
  exact ⟨.ref _, _, I.laid (t' := tk) (o := SetO X.w s.heap.objs.size (fun j => decide (j ∈ ns)) c) hk (Nat.le_refl _) (setO_new R), rfl, q _ c hn hcl⟩
/-- the ints of a list, each once, in order -/
def sortedSet (ns : List Int) : List Int := ns.eraseDups.mergeSort (· ≤ ·)
def IsSS (ns out : List Int) : Prop := out.Pairwise (· < ·) ∧ ∀ k, k ∈ out ↔ k ∈ ns
theorem dl_sset {p1 p2 q2 : Pos} {k : List D → Prop} (hc : X.calm = true) (hm : X.mg "sorted" = none) (hm2 : X.mg "set" = none) (h : DB X e δ fun d => ∃ ns : List Int, d = .list (ns.map .int) ∧ ns.length ≤ 60 ∧ ∀ out, IsSS ns out → k (out.map .int)) (hg : Gl X "sorted" := by rfl) (hg2 : Gl X "set" := by rfl)
    (hs : starEach [e] X.env = (false, eval e X.env) :: starEach [] X.env := by rfl) (hs2 : starEach [.Call (.Name "set" p2) [e] [] q2] X.env = (false, eval (.Call (.Name "set" p2) [e] [] q2) X.env) :: starEach [] X.env := by rfl) :
    DL X (.Call (.Name "sorted" p1) [.Call (.Name "set" p2) [e] [] q2] [] pos) δ k := fun σ H W ok R Q q =>
  wE_of (pe_callB (cr_sortedSet hc) hg hm (by decide +kernel) (pa_cons (pe_callTy (cr_setL hc) hg2 hm2 (by decide +kernel) (pa_cons pe_w pa_nil hs) (he := hs)) pa_nil hs2) (he := hs2)) (h σ H W ok R _ fun v d W1 H1 ⟨ns, ed, hl, hk⟩ e1 r1 => by
    subst ed
    obtain ⟨l, vs, h1, _, h3, h4⟩ := r1
    have e := h4.ints
    subst h1 e
    refine ⟨l, ns, rfl, SqL.of h3, hl, fun p c hp hcl => ⟨p, _, c, rfl, upd_same, by omega, fun out p2 ho hmem hlen hp2 => ?_⟩⟩
    have leA : Le W1 H1 W1 (upd H1 p (SetO X.w p (fun j => decide (j ∈ ns)) c)) := .put e1.ok hp
    obtain ⟨leB, g1, g2, g3, g4⟩ := new_lst leA.ok hp2 (Rps.ofInts out)
    exact q p2 _ _ _ _ (hk out ⟨ho, fun k => by rw [hmem]; simp⟩) (e1.tr (leA.tr leB)) g1 (fun z => g2 (e1.sub _ z)) g3 g4)
end
end Dt

/-! Dat9: any of a tuple of ints; a tuple times 1; t[::-1]; a pair with a pop; two clauses. -/
namespace Dt
open PySem PySem.Spec L2 PyProof.Rows

section
variable {X : Cx} {e a b c elt : Expr} {es : List Expr} {δ : DS} {pos : Pos}
/-! ### any(t), t a tuple of ints -/
theorem truth_intsT {prog : Program} {w : World} {A : Around} {ns : List Int} {its : List Value} (e : IntsAre its ns) :
    TruthOf prog w A (fun i v => its.toArray[i]? = some v) (fun i => (ns.map fun n => n != 0).getD i false) := fun i v s Q E hv hq => by
  have hv' : its[i]? = some v := by simpa using hv
  obtain ⟨t, rfl⟩ := PyProof.Rows.IntsAre.int_at e i v hv'
  have hl : i < ns.length := by rw [← IntsAre.length e]; exact (List.getElem?_eq_some_iff.mp hv').1
  have hg : (ns.map fun n => n != 0).getD i false = (ns.getD i 0 != 0) := by
    rw [List.getD_eq_getElem?_getD, List.getElem?_map, List.getD_eq_getElem?_getD, List.getElem?_eq_getElem hl] <;> rfl
  have hq' : Q ((ns.map fun n => n != 0).getD i false) s := hq
  rw [hg] at hq'
  exact PyProof.Rows.truthy_int hq'
theorem cr_anyT (hc : X.calm = true) : CallR X (.builtin "any") (fun vs H Q => ∃ (a : Addr) (ns : List Int), vs = [V.ref a] ∧ SqT X.K H a (ns.map V.int) ∧ Q (.bl (ns.any fun n => n != 0)) H) := by
  intro pins s σ H vs us Q I r h
  obtain ⟨a, ns, rfl, hs, q⟩ := h
  obtain ⟨its, rv, p, _⟩ := I.tuple hs
  rw [Vals.ref1 r]
  have hi : IntsAre its ns := rv.ints
  have hlt : a < s.heap.objs.size := p.lt
  refine call_any_walk (wpAny_pyIter_tuple p ?_)
  refine ⟨_, _, _, _, _, _, _, rfl, Walks.tuple (A := X.A.in1) (by simpa using I.ok.hd hc) _ a (Nat.ne_of_lt hlt) its.toArray, ⟨⟨_, Heap.get?_push_size _ rfl, rfl, rfl⟩, p.push _⟩, truth_intsT hi, fun h' tk hk => ?_⟩
  refine ⟨.bl _, H, I.kept fun b o eo => hk b o (fun hmem => ?_) (Heap.get?_push_of_some _ eo), ?_, q⟩
  · rcases List.mem_cons.mp hmem with e1 | hmem
    · exact absurd (e1 ▸ Heap.lt_size eo) (Nat.lt_irrefl _)
    · cases hmem
  · show Value.bool _ = Value.bool _
    have hl : its.toArray.size = (ns.map fun n => n != 0).length := by rw [List.size_toArray, List.length_map]; exact IntsAre.length hi
    rw [hl, L2.any_range, List.any_map]
    rfl
theorem de_anyT {p : Pos} {k : D → Prop} (hc : X.calm = true) (hm : X.mg "any" = none) (h : DE X e δ fun d => ∃ ns : List Int, d = .tuple (ns.map .int) ∧ k (.bool (ns.any fun n => n != 0))) (hg : Gl X "any" := by rfl)
    (hs : starEach [e] X.env = (false, eval e X.env) :: starEach [] X.env := by rfl) : DE X (.Call (.Name "any" p) [e] [] pos) δ k := fun σ H W ok R Q q =>
  wE_of (pe_callB (cr_anyT hc) hg hm (by decide +kernel) (pa_cons pe_w pa_nil hs) (he := hs)) (h σ H W ok R _ fun v d W1 H1 ⟨ns, hd, hk⟩ e1 r1 => by
    subst hd
    cases r1 with
    | @tup l vs _ h1 h2 =>
      have e := h2.ints
      subst e
      exact ⟨l, ns, rfl, SqT.of (hid_some h1).2, q _ _ W1 H1 hk e1 (.bl _)⟩)

/-! ### a tuple times a number -/
theorem tuple_mul1 (l : Addr) (items : Array Value) (n : Nat) (dd : Option Addr) (sl : Array (Option Value)) (u : Tok) :
    Meets (Builtin.«tuple.__mul__» ⟨[.ref l, .int 1 u], []⟩) (fun _ R s => s.heap.get? l = some { cls := .type "tuple", dict := dd, data := .seq items n, slots := sl } ∧ R (.ok (.ret (Value.ref l))) s) :=
  .of_wp fun prog w A R s h => by
    obtain ⟨hp, g, d, tk, os⟩ := s
    obtain ⟨hl, h⟩ := h
    have f1 := AutoSeq1.idx_int
    wp_walk using AutoSeq1.wpAny_loadPart' hl
    repeat (first
      | (refine wpAny_ite_false (decide_eq_false (by decide)) ?_; wp_walk using AutoSeq1.wpAny_loadPart' hl)
      | (refine wpAny_ite_true (decide_eq_true (by simp)) ?_; wp_walk using AutoSeq1.wpAny_loadPart' hl))
    exact ⟨_, rfl, h⟩
theorem op_repT1 : OpR X (binaryOp .Mult) (fun x y H Q => ∃ l xs, x = .ref l ∧ y = .int 1 ∧ SqT X.K H l xs ∧ Q (.ref l) H) := by
  intro pins s σ H x y v u Q I rx ry h
  obtain ⟨l, xs, rfl, rfl, hT, q⟩ := h
  obtain rfl : v = Value.ref l := rx
  obtain ⟨t, rfl⟩ := ry
  obtain ⟨its, r, ⟨⟨cls, dd, data, sl⟩, ho, hc, n, hd⟩, hs⟩ := I.tuple hT
  simp only at hc hd
  subst hc hd
  exact wpAny_binaryOp_repeat_ref (T := "tuple") (U := "int") (by decide) ⟨_, ho, rfl⟩ (fun s' => typeIs_int s' 1 t) noFill_tuple_mul PySem.F.fills_int_mul PySem.F.slot_int_rmul repeat_tuple PySem.F.slot_int_index.lookup
    (call_meets PySem.F.slot_int_rmul (typeIs_int s 1 t) PySem.F.entry_int_rmul (PySem.F.args_int_rmul_2 _ _) (int_rmul_tuple 1 t l its.toArray n dd sl)
      ⟨ho, rfl, ⟨_, ho, rfl⟩, call_meets PySem.F.slot_tuple_mul ⟨_, ho, rfl⟩ PySem.F.entry_tuple_mul (PySem.F.args_tuple_mul_2 _ _) (tuple_mul1 l its.toArray n dd sl t) ⟨ho, ⟨.ref l, H, I, rfl, q⟩⟩⟩)
def rMulT (K : PySem.W.Frag) : R2 := fun x y H Q => rRepT K x y H Q ∨ ∃ l xs, x = .ref l ∧ y = .int 1 ∧ SqT K H l xs ∧ Q (.ref l) H
theorem de_mulT {k : D → Prop} (h : DE X a δ fun x => ∃ ds, x = .tuple ds ∧ DE X b δ fun y => ∃ n : Nat, y = .int n ∧ 1 ≤ n ∧ n ≤ 1000 ∧ ds ≠ [] ∧ ds.length ≤ 1000 ∧ k (.tuple (List.replicate n ds).flatten)) : DE X (.BinOp a .Mult b pos) δ k := fun σ H W ok R Q q =>
  wE_of (pe_op (op_repT.or op_repT1) pe_w pe_w) (h σ H W ok R _ fun v d W1 H1 ⟨ds, ed, hb⟩ e1 r1 => by
    subst ed
    refine hb σ H1 W1 e1.ok (R.le e1) _ fun v2 d2 W2 H2 ⟨n, ey, h1, h2, hne, hl, hk⟩ e2 r2 => ?_
    subst ey; cases r2
    have r1' := r1.mono e2.hid
    cases r1' with
    | @tup l vs _ g1 g2 =>
      by_cases e : n = 1
      · subst e
        have ef : (List.replicate 1 ds).flatten = ds := by simp
        rw [ef] at hk
        exact .inr ⟨l, vs, rfl, rfl, SqT.of (hid_some g1).2, q _ _ W2 H2 hk (e1.tr e2) (.tup g1 g2)⟩
      · refine .inl ⟨l, n, vs, rfl, rfl, SqT.of (hid_some g1).2, fun z => ?_, by omega, by omega, by rw [g2.len]; exact hl, fun p hp => ?_⟩
        · subst z; cases g2; exact hne rfl
        · rw [Int.toNat_natCast]
          obtain ⟨le, rp⟩ := new_tup e2.ok hp (g2.reps n)
          exact q _ _ W2 _ hk ((e1.tr e2).tr le) rp)

/-! ### t[::-1] -/
theorem pick_rev (xs : Array Value) : ((List.range xs.size).filterMap fun (m : Nat) => xs[((xs.size : Int) - 1 + (m : Int) * (-1)).toNat]?).toArray = xs.toList.reverse.toArray := by
  have e1 : (List.range xs.size).filterMap (fun (m : Nat) => xs[((xs.size : Int) - 1 + (m : Int) * (-1)).toNat]?) = ((List.range xs.size).map fun k => xs.size - 1 - k).filterMap (xs[·]?) := by
    rw [List.filterMap_map]
    have e : ∀ n : Nat, (fun (m : Nat) => xs[((n : Int) - 1 + (m : Int) * (-1)).toNat]?) = ((xs[·]?) ∘ fun k => n - 1 - k) := fun n => by
      funext m
      show xs[_]? = xs[_]?
      have : ((n : Int) - 1 + (m : Int) * (-1)).toNat = n - 1 - m := by omega
      rw [this]
    rw [e]
  rw [e1, PySem.W.krv_range, List.filterMap_reverse, PySem.W.krv_all]
theorem slice_back {prog : Program} {w : World} {A : Around} {E : Value → Shared → Prop} {s : Shared} {sl : Addr} {vs : Value} {n : Nat} {Q : Int × Int × Nat → Shared → Prop} (hs : s.heap.IsSliceOf sl .none .none vs) (ps : IsPart vs (some (-1)))
    (h : Q ((n : Int) - 1, -1, n) s) : wpAny (model prog w) A (Builtin.Slice.sliceApplied (.ref sl) (pure (n : Int))) Q E s := by
  obtain ⟨os, hos, hcs, hds⟩ := id hs
  unfold Builtin.Slice.sliceApplied Builtin.Slice.sliceFields
  refine wpAny_bind (wpAny_bind (wpAny_field hos hds (x := .none) rfl (wpAny_bind (wpAny_field hos hds (x := .none) rfl (wpAny_bind (wpAny_field hos hds (x := vs) rfl (wpAny_pure ?_)))))))
  refine wpAny_bind (HT.slicePart_ ps ?_)
  show wpAny _ _ (if ((-1 : Int) == 0) = true then _ else _) _ _ s
  rw [if_neg (by decide)]
  refine wpAny_bind (HT.slicePart_ .none (wpAny_bind (HT.slicePart_ .none (wpAny_bind (wpAny_pure ?_)))))
  show wpAny _ _ (pure ((n : Int) - 1, (-1 : Int), Builtin.Slice.slicePlaces ((n : Int) - 1) (-1) (-1))) _ _ s
  have e : Builtin.Slice.slicePlaces ((n : Int) - 1) (-1) (-1) = n := by
    unfold Builtin.Slice.slicePlaces
    by_cases hn : n = 0
    · subst hn; rfl
    · rw [if_neg (by decide), if_pos (by omega)]
      have e : ((n : Int) - 1 - -1 - 1) / - -1 = (n : Int) - 1 := by
        rw [show (- -1 : Int) = 1 by decide, Int.ediv_one]; omega
      rw [e]
      omega
  rw [e]
  exact wpAny_pure h
theorem getItem_back {prog : Program} {w : World} {A : Around} {E : Value → Shared → Prop} {s : Shared} {t sl : Addr} {items : Array Value} {vs : Value} {Q : Value → Shared → Prop} (ht : IsTup s.heap t items) (hs : s.heap.IsSliceOf sl .none .none vs) (ps : IsPart vs (some (-1)))
    (h : Q (.ref s.heap.objs.size) { s with heap := s.heap.push { cls := .type "tuple", data := .seq items.toList.reverse.toArray } }) (hsz : items.size ≤ sizeLine) : wpAny (model prog w) A (getItem (.ref t) (.ref sl)) Q E s := by
  have hok : sizeOk (.seq items.toList.reverse.toArray) := by
    show items.toList.reverse.toArray.size ≤ sizeLine
    simpa using hsz
  have hTs : s.TypeIs (.ref sl) "slice" := by obtain ⟨os, hos, hcs, _⟩ := id hs; exact ⟨os, hos, hcs⟩
  unfold getItem
  try with_reducible refine wpAny_holding ?_
  first | refine wpAny_bind (wpAny_pure ?_) | skip
  refine wpAny_bind (wpAny_sequenceKey ht.typeIs (by decide) (wpAny_bind (wpAny_callSpecial?_slot (name := Str.ofString "__getitem__") ht.typeIs PyProof.Rows.slot_tuple_getitem (wpAny_call_entry PyProof.Rows.slot_tuple_getitem ht.typeIs PyProof.Rows.entry_tuple_getitem ?_ (PyProof.Rows.args_tuple_getitem _ _)))))
  show wpAny _ _ (Builtin.Tuple.tupleItemsOf (.ref t) >>= _) _ _ s
  refine wpAny_bind (PyProof.Rows.tupleItemsOf_ ht (wpAny_bind (wpAny_typeOf hTs ?_)))
  rw [if_pos (by decide)]
  refine wpAny_bind (slice_back hs ps ?_)
  show wpAny _ _ (if (((items.size : Int) - 1) == 0 && (-1 : Int) == 1 && items.size == items.size) = true then _ else _) _ _ s
  have hno : ¬ ((((items.size : Int) - 1) == 0 && (-1 : Int) == 1 && items.size == items.size) = true) := by simp
  rw [if_neg hno, pick_rev]
  first
    | exact wpAny_bind (m := Builtin.Tuple.tupleExact _) (wpAny_newObj_type (wpAny_pure ⟨_, rfl, wpAny_pure h⟩) hok)
    | exact wpAny_bind (m := Builtin.Tuple.tupleExact _) (wpAny_newObj_type (wpAny_bind (wpAny_pure (wpAny_pure ⟨_, rfl, wpAny_pure h⟩))) hok)
    | exact wpAny_bind (wpAny_bind (m := Builtin.Tuple.tupleExact _) (wpAny_newObj_type (wpAny_pure (wpAny_pure ⟨_, rfl, wpAny_pure h⟩)) hok))
    | exact wpAny_bind (wpAny_bind (m := Builtin.Tuple.tupleExact _) (wpAny_newObj_type (wpAny_pure ⟨_, rfl, wpAny_pure h⟩) hok))
def tBack (K : PySem.W.Frag) (te : TE) : TE := fun σ H Q => te σ H fun x H1 => ∃ a xs, x = .ref a ∧ SqT K H1 a xs ∧ ∀ p, H1 p = none → Q (.ref p) (upd H1 p (.tup xs.reverse))
theorem pe_back {te : TE} {k : Nat} {p1 p2 p3 : Pos} (he : PE X e te) : PE X (.Subscript e (.Slice none none (some (.UnaryOp .USub (.Constant (.int 1) k p1) p2)) p3) pos) (tBack X.K te) := by
  refine ⟨fun pins s σ H Q I h => Subscript_ (thn (he.run pins s σ H _ I h) fun v s1 ⟨x, H1, I1, r1, a, xs, ex, hx, q⟩ => ?_)⟩
  subst ex
  obtain rfl : v = Value.ref a := r1
  have hst : PO X (some (.UnaryOp .USub (.Constant (.int 1) k p1) p2)) (tPart (tUn (rU fun i => .int (-i)) (tC (.int 1)))) := po_some (pe_un un_neg pe_int)
  refine wpAny_Slice (thn (po_none.run pins s1 σ H1 (fun o H2 => o = none ∧ H2 = H1) I1 ⟨rfl, rfl⟩) fun vl s2 ⟨l, H2, I2, pl, el, e2⟩ => ?_)
  subst el e2
  cases pl
  refine thn (po_none.run pins s2 σ H2 (fun o H3 => o = none ∧ H3 = H2) I2 ⟨rfl, rfl⟩) fun vu s3 ⟨u, H3, I3, pu, eu, e3⟩ => ?_
  subst eu e3
  cases pu
  refine thn (hst.run pins s3 σ H3 (fun o H4 => o = some (-1) ∧ H4 = H3) I3 ⟨1, rfl, -1, rfl, rfl, rfl⟩) fun vs s4 ⟨o, H4, I4, ps, eo, e4⟩ => ?_
  subst eo e4
  have I5 : Inv X pins σ H4 { s4 with heap := s4.heap.push { cls := .type "slice", data := .fields #[.none, .none, vs] } } := I4.kept (t' := s4.toks) fun b ob q => Heap.get?_push_of_some _ q
  obtain ⟨its, r, ht, hz⟩ := I5.tuple hx
  have hlen := r.length
  refine tail_any (ops := [.ref a, .ref s4.heap.objs.size]) ht.typeIs PyProof.Rows.slot_tuple_getitem.lookup ?_ (by with_unfolding_all rfl)
  refine getItem_back ht (Heap.IsSliceOf.new _ _ _ vs) ps ?_ (by rw [List.size_toArray]; omega)
  exact ⟨.ref _, _, I5.laid (t' := s4.toks) (o := .tup xs.reverse) (fun b ob q => Heap.get?_push_of_some _ q) (Nat.le_refl _) ⟨by rw [List.length_reverse]; exact hz, _, r.reverse, IsTup.new _ _⟩, rfl, q _ (I5.hok.fresh (Nat.le_refl _))⟩
theorem de_back {k : D → Prop} {kk : Nat} {p1 p2 p3 : Pos} (h : DE X e δ fun d => ∃ ds, d = .tuple ds ∧ k (.tuple ds.reverse)) : DE X (.Subscript e (.Slice none none (some (.UnaryOp .USub (.Constant (.int 1) kk p1) p2)) p3) pos) δ k := fun σ H W ok R Q q =>
  wE_of (pe_back pe_w) (h σ H W ok R _ fun v d W1 H1 ⟨ds, ed, hk⟩ e1 r1 => by
    subst ed
    cases r1 with
    | @tup l vs _ g1 g2 =>
      refine ⟨l, vs, rfl, SqT.of (hid_some g1).2, fun p hp => ?_⟩
      obtain ⟨le, rp⟩ := new_tup e1.ok hp g2.rev
      exact q _ _ W1 _ hk (e1.tr le) rp)

/-! ### a, b = xs.pop(i), e -/
theorem ds_popPair (i j1 j2 : Nat) {E : DEnd} {x y z : Str} {p1 p2 pc px py pt : Pos} {kt k2 pt2} {idx : Expr} {ds : List D} (hc : X.calm = true) (nd : X.N.Nodup) (hd : δ[i]? = some (some (.own ds)))
    (h : DE X idx δ fun v => ∃ (n : Int) (j : Nat) (d : D), v = .int n ∧ -(2 ^ 63) ≤ n ∧ n < 2 ^ 63 ∧ seqIndex? n ds.length = some j ∧ ds[j]? = some d ∧
      DE X b (δ.set i (some (.own (ds.eraseIdx j)))) fun d2 => E.nx (((δ.set i (some (.own (ds.eraseIdx j)))).set j1 (some (.sh d))).set j2 (some (.sh d2))))
    (hN : X.N[i]? = some z := by rfl) (hv : Vis X.env.scope z := by first | exact Or.inl rfl | exact Or.inr (Or.inl rfl) | exact Or.inr (Or.inr rfl)) (hzd : (z == ("__debug__" : Str)) = false := by decide) (hzc : (z == ("__classdict__" : Str)) = false := by decide)
    (hi : X.N[j1]? = some x := by rfl) (hj : X.N[j2]? = some y := by rfl) (hx : Loc X.env.scope x := by first | exact Or.inl rfl | exact Or.inr rfl) (hy : Loc X.env.scope y := by first | exact Or.inl rfl | exact Or.inr rfl)
    (hf1 : X.fn x = true ∨ X.env.scope.names.lookup x = some .local := by first | exact .inl rfl | exact .inr rfl) (hf2 : X.fn y = true ∨ X.env.scope.names.lookup y = some .local := by first | exact .inl rfl | exact .inr rfl)
    (hbase : attributeBase (.Name z p1) "pop" X.env (eval (.Name z p1) X.env) = eval (.Name z p1) X.env := by rfl)
    (hfew : ((backTo pc (starEach [idx] X.env)).all (fun x => !x.1) && (backToKw pc (keywordEach [] X.env)).all (fun x => x.1.isSome) && decide ([idx].length + ([] : List Keyword).length + (if ([] : List Keyword).isEmpty then 0 else 1) < 30)) = true := by rfl)
    (hline : (p2.endLine == pc.line) = true := by rfl) (hs0 : starEach [idx] X.env = (false, eval idx X.env) :: starEach [] X.env := by rfl)
    (hw : swappedStores [.Tuple [.Name x px, .Name y py] kt pt] (.Tuple [.Call (.Attribute (.Name z p1) "pop" p2) [idx] [] pc, b] k2 pt2) X.env = pure none := by rfl)
    (hs : swapsWithSole [.Tuple [.Name x px, .Name y py] kt pt] (.Tuple [.Call (.Attribute (.Name z p1) "pop" p2) [idx] [] pc, b] k2 pt2) pos.line X.env = pure false := by rfl)
    (hs1 : starEach [.Call (.Attribute (.Name z p1) "pop" p2) [idx] [] pc, b] X.env = (false, eval (.Call (.Attribute (.Name z p1) "pop" p2) [idx] [] pc) X.env) :: starEach [b] X.env := by rfl) (hs2 : starEach [b] X.env = (false, eval b X.env) :: starEach [] X.env := by rfl) :
    DSt X (.Assign [.Tuple [.Name x px, .Name y py] kt pt] (.Tuple [.Call (.Attribute (.Name z p1) "pop" p2) [idx] [] pc, b] k2 pt2) pos) δ E := fun W0 H0 G W H σ at_ Z zz => by
  obtain ⟨v, g1, l, vs, g2, g3, g4, g5, g6⟩ := at_.r.at_ i _ hd
  subst g2
  refine wS_of (ps_asg (pe_tup (pa_cons (pe_bm PySem.F.plainAttrs_list PySem.F.slot_list_pop PySem.F.type_list_pop mt_popAt (pe_var hN hv hzd hzc) (pa_cons pe_w pa_nil hs0) hbase hfew hline hs0 rfl) (pa_cons pe_w pa_nil hs2) hs1))
    (pg_tup (n := 2) hc (pgs_cons (pg_name (i := j1) nd hi hx hf1) (pgs_cons (pg_name (i := j2) nd hj hy hf2) pgs_nil))) hs hw) ⟨_, g1, .inl ⟨rfl, vs, SqL.of g5⟩, ?_⟩
  refine h σ H W at_.le.ok at_.r _ fun v2 d0 W1 H1 ⟨n, j, d, ey, b1, b2, hj', hdj, hk⟩ e1 r1 => ?_
  subst ey; cases r1
  have k4 : l ∉ W1.B := by rw [e1.b]; exact g4
  have k5 := e1.keep l _ (fun y => g4 (at_.le.ok.mb l y)) g5
  have k6 := g6.mono e1.hid
  obtain ⟨u, hu, ru⟩ := k6.get hdj
  have aw := (at_.go e1).write hd g1 (e1.sub l g3) k4 (k6.erase j)
  have ru' : Rp (hid W1.O (upd H1 l (.lst (vs.eraseIdx j)))) u d := by rw [hid_upd (e1.sub l g3)]; exact ru
  refine ⟨l, vs, n, j, u, rfl, rfl, k5, b1, b2, by rw [k6.len]; exact hj', hu, ?_⟩
  refine hk σ _ W1 aw.le.ok aw.r _ fun v3 d3 W3 H3 hk3 e3 r3 => ⟨small_line (by show 2 ≤ 100000; decide), fun p hp => ⟨p, [u, v3], rfl, SqT.of upd_same, rfl, u, [v3], rfl, v3, [], rfl, rfl, ?_⟩⟩
  exact zz.nx _ _ W3 _ hk3 (((aw.set (s := .sh d) (.rfl' aw.le.ok) ru' trivial j1).set (s := .sh d3) e3 r3 trivial j2).go (.put e3.ok hp))

theorem yes_intro {σ : L2.St} {H : Hp} {A B : Hp → Prop} (h : A H) : tYes σ H fun b H3 => if b = true then A H3 else B H3 := by
  show (if true = true then A H else B H)
  rw [if_pos rfl]
  exact h
/-! ### [e for x in t for y in u], t and u tuples -/
theorem dl_lc2 {own : List (Str × Nat)} {scope : Scope} {tg tg1 iter iter1 : Expr} {j1 j2 : Nat} {P : D → Prop} {k : List D → Prop} (hc : X.calm = true) (nd : X.N.Nodup) (ok : BlkOk X.N X.env.scope scope own) (hjs : own.map (·.2) = [j1, j2]) (hj : j1 ≠ j2)
    (hg : TgOk X scope tg false [j1]) (hg1 : TgOk X scope tg1 false [j2]) (d1 : ∀ s, δ[j1]? ≠ some (some s)) (d2 : ∀ s, δ[j2]? ≠ some (some s))
    (h : DE X iter δ fun d => ∃ ds, d = .tuple ds ∧ ds.length ≤ 300 ∧ (∀ x ∈ ds, BE X scope iter1 (δ.set j1 (some (.sh x))) fun d => ∃ es, d = .tuple es ∧ es.length ≤ 300 ∧ ∀ y ∈ es, BE X scope elt ((δ.set j1 (some (.sh x))).set j2 (some (.sh y))) P) ∧ ∀ ys, (∀ y ∈ ys, P y) → k ys)
    (hs : ∀ x, foldedSetIterable iter X.env x = pure x := by intro _; rfl) (hs1 : ∀ env x, foldedSetIterable iter1 env x = pure x := by intro _ _; rfl) : DL X (.ListComp elt [⟨tg, iter, [], 0⟩, ⟨tg1, iter1, [], 0⟩] scope pos) δ k := fun σ H W wok R Q q => by
  have hvs : ∀ i ∈ [j2], i ∈ own.map (·.2) := fun i hi => by rw [hjs]; rw [List.mem_singleton.mp hi]; simp
  refine wE_of (pe_lc2 (vs1 := [j2]) (wi1 := iTup X.K (wEb X scope iter1)) hc nd (pi_tup pe_w) ok hvs hg (fun _ _ _ _ _ => pts_nil) (fun s H C cl fp => pi_tup (X := X.blk s H scope (compEnvC scope cl C X.env) fp) (pe_wb (X := X) (scope := scope) (e := iter1) s H C cl fp)) hg1 (fun _ _ _ _ _ => pts_nil) (pe_wb (X := X) (scope := scope) (e := elt)) hs hs1) ?_
  rw [hjs]
  refine h σ H W wok R _ fun v d W1 H1 ⟨ds, ed, hlen, hin, hk⟩ e1 r1 => ?_
  subst ed
  cases r1 with
  | @tup l vs _ g1 g2 =>
    refine ⟨l, rfl, ⟨vs, SqT.of (hid_some g1).2⟩, fun Dl hD => ?_⟩
    have hDO : Dl ∉ W1.O := fun z => e1.ok.there Dl z hD
    have le0 : Le W1 H1 (W1.add Dl) (upd H1 Dl (.lst [])) := .own e1.ok hD
    have Rw : RepS W1 H1 (wipe σ [j1, j2]) δ := (R.le e1).forget (by rw [wipe_length]; exact R.len) fun i s hi => ⟨hi, by
      refine wipe_out fun z => ?_
      rcases two_mem z with z | z
      · exact d1 s (z ▸ hi)
      · exact d2 s (z ▸ hi)⟩
    have hDM : Dl ∉ W1.M := fun z => hDO (e1.ok.bo _ (e1.ok.mb _ z))
    -- the state: what is made so far has the property
    let St : Nat → Hp → Prop := fun m H2 => ∃ W2 ws ys, Le W1 H1 W2 H2 ∧ Dl ∈ W2.O ∧ H2 Dl = some (.lst ws) ∧ Rps (hid W2.O H2) ws ys ∧ ys.length ≤ m ∧ ∀ y ∈ ys, P y
    refine ⟨fun i m H2 => m = vs.length - i ∧ i ≤ vs.length ∧ St (i * 300) H2, ⟨vs.length, by simp, Nat.zero_le _, W1.add Dl, [], [], le0, List.mem_cons_self, upd_same, .nil, by simp, fun y hy => by cases hy⟩, ?_⟩
    rintro i m H2 ⟨rfl, hi, W2, ws, ys, le2, hO2, hl2, r2, hyl, hP⟩
    have c1 := (hid_some (le2.hid _ _ g1)).2
    by_cases hlt : i < vs.length
    · refine .inr ⟨⟨vs, vs[i], SqT.of c1, List.getElem?_eq_getElem hlt⟩, fun H' => i + 1 ≤ vs.length ∧ St ((i + 1) * 300) H', fun H' ⟨a1, a2⟩ => ⟨vs.length - (i + 1), by omega, rfl, a1, a2⟩, fun x H' ⟨eH, hx⟩ => ?_⟩
      subst eH
      have ex := hx vs (SqT.of c1)
      obtain ⟨dx, hdx, rx⟩ := g2.get' ex
      refine ⟨?_, ?_⟩
      · have e := wipe_setV σ [j1, j2] [x]
        exact e
      refine yes_intro ?_
      have R2 := RepS.set (s := .sh dx) (Rw.le le2) (.rfl' le2.ok) (rx.mono le2.hid) trivial j1
      refine be_run (hin dx (List.mem_of_getElem? hdx)) le2.ok R2 _ fun v3 d3 W3 H3 ⟨es, ee, hel, hke⟩ e3 r3 => ?_
      subst ee
      cases r3 with
      | @tup l3 us _ f1 f2 =>
        refine ⟨l3, rfl, ⟨us, SqT.of (hid_some f1).2⟩, ?_⟩
        have hl3 : H3 Dl = some (.lst ws) := e3.keep _ _ (by rw [le2.m]; exact hDM) hl2
        let St2 : Nat → Hp → Prop := fun j H4 => ∃ W4 ws ys, Le W1 H1 W4 H4 ∧ Sub (hid W3.O H3) (hid W4.O H4) ∧ Dl ∈ W4.O ∧ H4 Dl = some (.lst ws) ∧ Rps (hid W4.O H4) ws ys ∧ ys.length ≤ i * 300 + j ∧ ∀ y ∈ ys, P y
        refine ⟨fun j m H4 => m = us.length - j ∧ j ≤ us.length ∧ St2 j H4, ⟨us.length, by simp, Nat.zero_le _, W3, ws, ys, le2.tr e3, .rfl', e3.sub _ hO2, hl3, r2.mono e3.hid, by omega, hP⟩, ?_⟩
        rintro j m H4 ⟨rfl, hj4, W4, ws4, ys4, le4, sb4, hO4, hl4, r4, hyl4, hP4⟩
        have c3 := (hid_some (sb4 _ _ f1)).2
        have hus : us.length ≤ 300 := by rw [f2.len]; exact hel
        by_cases hlt4 : j < us.length
        · refine .inr ⟨⟨us, us[j], SqT.of c3, List.getElem?_eq_getElem hlt4⟩, fun H' => j + 1 ≤ us.length ∧ St2 (j + 1) H', fun H' ⟨a1, a2⟩ => ⟨us.length - (j + 1), by omega, rfl, a1, a2⟩, fun y H5 ⟨eH, hy⟩ => ?_⟩
          subst eH
          have ey := hy us (SqT.of c3)
          obtain ⟨dy, hdy, ry⟩ := f2.get' ey
          refine ⟨wipe_setV _ [j2] [y], ?_⟩
          refine yes_intro ?_
          have ew : (wipe ((wipe σ [j1, j2]).set j1 (some x)) [j2]).set j2 (some y) = ((wipe σ [j1, j2]).set j1 (some x)).set j2 (some y) := by
            show ((((wipe σ [j1, j2]).set j1 (some x)).set j2 none).set j2 (some y)) = _
            rw [List.set_set]
          have le4' : Le W1 H1 W4 H5 := le4
          have R4 : RepS W4 H5 (((wipe σ [j1, j2]).set j1 (some x)).set j2 (some y)) ((δ.set j1 (some (.sh dx))).set j2 (some (.sh dy))) :=
            RepS.set (s := .sh dy) (RepS.set (s := .sh dx) (Rw.le le4') (.rfl' le4.ok) (rx.mono le4'.hid) trivial j1) (.rfl' le4.ok) (ry.mono sb4) trivial j2
          rw [← ew] at R4
          refine be_run (hke dy (List.mem_of_getElem? hdy)) le4.ok R4 _ fun v6 d6 W6 H6 hk6 e6 r6 => ?_
          have leA := le4.tr e6
          have hO6 := e6.sub _ hO4
          have hB6 : Dl ∉ W6.B := le_notB leA hDO
          have hl6 : H6 Dl = some (.lst ws4) := e6.keep _ _ (by rw [le4.m]; exact hDM) hl4
          have r6' := r4.mono e6.hid
          have leB : Le W1 H1 W6 (upd H6 Dl (.lst (ws4 ++ [v6]))) := by
            refine ⟨leA.b, leA.m, leA.sub, leA.new, fun b o hb e => ?_, leA.ok0, leA.ok.write hO6 hB6⟩
            rw [upd_ne (ne_of_none e hD)]; exact leA.keep b o hb e
          have hds : vs.length ≤ 300 := by rw [g2.len]; exact hlen
          refine ⟨ws4, hl6, by rw [r6'.len]; exact small_lineT (by omega), hlt4, W6, _, ys4 ++ [d6], leB, ?_, hO6, upd_same, ?_, by simp; omega, fun z hz => ?_⟩
          · rw [hid_upd hO6]; exact sb4.tr e6.hid
          · rw [hid_upd hO6]; exact r6'.app (.one r6)
          · rcases List.mem_append.mp hz with hz | hz
            · exact hP4 z hz
            · rw [List.mem_singleton.mp hz]; exact hk6
        · have e : j = us.length := by omega
          subst e
          exact .inl ⟨⟨us, SqT.of c3, Nat.le_refl _⟩, hlt, W4, ws4, ys4, le4, hO4, hl4, r4, by omega, hP4⟩
    · have e : i = vs.length := by omega
      subst e
      exact .inl ⟨⟨vs, SqT.of c1, Nat.le_refl _⟩, q Dl ws ys W2 H2 (hk ys hP) (e1.tr le2) hO2 (fun z => hDO (e1.sub _ z)) hl2 r2⟩
end
end Dt

/-! Dat10: a dict comprehension into a plain local; a walk over a list of pairs. -/
namespace Dt
open PySem PySem.Spec L2
section
variable {X : Cx} {e a b c elt tg iter : Expr} {es : List Expr} {δ : DS} {pos : Pos} {ifs : List Expr} {scope : Scope}
theorem td_dc {wi : TI} {own : List (Str × Nat)} {tup : Bool} {k : S → Prop} {kx vx : Expr} (hnd : (own.map (·.2)).Nodup)
    (hr : ∀ (σ : L2.St) (H : Hp) (W : Wd), WOk W H → RepS W H σ δ → ∀ R : It → Hp → Prop, (∀ J us W' H', (∃ kvs : List (Int × D), us.length = kvs.length ∧ us.length < 100000 ∧ (kvs.map (·.1)).Nodup ∧ (∀ (i : Nat) (ds : List D) (p : Int × D), us[i]? = some ds → kvs[i]? = some p → BE X scope kx (setD δ (own.map (·.2)) ds) (fun y => y = .int p.1) ∧ BE X scope vx (setD δ (own.map (·.2)) ds) (fun y => y = p.2)) ∧ k (.tab kvs)) → Le W H W' H' → Steps X.K tup (own.map (·.2)) J us (hid W'.O H') (Kept W'.M H') → R J H') → wi σ H R)
    {σ : L2.St} {H : Hp} {W : Wd} (wok : WOk W H) (R : RepS W H σ δ) (Q : VK) (q : ∀ v s W' H', k s → Le W H W' H' → RepV W' H' v s → FreshV W v s → Q v H') : tDc wi (tgG X.K tup (own.map (·.2))) (wTb X scope []) (wEb X scope kx) (wEb X scope vx) (own.map (·.2)) σ H Q := by
  refine hr σ H W wok R _ fun J us W1 H1 ⟨kvs, hlen, hsm, hnk, hst, hk⟩ le1 st Dl hD => ?_
  have wok1 := le1.ok
  have R1 := R.le le1
  have le0 : Le W1 H1 (W1.add Dl) (upd H1 Dl (.dK [])) := .own wok1 hD
  have hDO : Dl ∉ W1.O := fun z => wok1.there Dl z hD
  refine ⟨fun i m H2 => m = us.length - i ∧ i ≤ us.length ∧ ∃ W2 ws, Le W1 H1 W2 H2 ∧ Dl ∈ W2.O ∧ H2 Dl = some (.dK ws) ∧ TabR (hid W2.O H2) ws (kvs.take i),
    ⟨us.length, by simp, Nat.zero_le _, W1.add Dl, [], le0, List.mem_cons_self, upd_same, rfl, .nil⟩, ?_⟩
  rintro i m H2 ⟨rfl, hi, W2, ws, le2, hO2, hl2, r2⟩
  have s2 := st W2 H2 le2.ok le2.hid le2.keep i
  by_cases hlt : i < us.length
  · obtain ⟨go, yl⟩ := s2.1 _ (List.getElem?_eq_getElem hlt)
    have hlt' : i < kvs.length := by omega
    refine .inr ⟨go, fun H' => i + 1 ≤ us.length ∧ ∃ W3 ws, Le W1 H1 W3 H' ∧ Dl ∈ W3.O ∧ H' Dl = some (.dK ws) ∧ TabR (hid W3.O H') ws (kvs.take (i + 1)), fun H' ⟨a1, a2⟩ => ⟨us.length - (i + 1), by omega, rfl, a1, a2⟩, fun x H' hy => ?_⟩
    obtain ⟨le3, tgr⟩ := yl x H' hy
    refine tgr (wipe σ (own.map (·.2))) _ fun vs hw rw_ => ?_
    refine ⟨wipe_setV σ _ vs, ?_⟩
    rw [setV_wipe _ vs σ hw hnd]
    have R3 := rep_setV le3.ok (own.map (·.2)) _ _ _ _ (R1.le (le2.tr le3)) rw_
    have hDM : Dl ∉ W1.M := fun z => hDO (wok1.bo _ (wok1.mb _ z))
    obtain ⟨hkx, hvx⟩ := hst i _ _ (List.getElem?_eq_getElem hlt) (List.getElem?_eq_getElem hlt')
    show wEb X scope kx _ _ _
    refine be_run hkx le3.ok R3 _ fun v d W4 H4 ed le4 r4 => ?_
    subst ed
    cases r4
    refine be_run hvx le4.ok (R3.le le4) _ fun v2 d2 W5 H5 ed le5 r5 => ?_
    subst ed
    have m2 := le2.m
    have hl5 : H5 Dl = some (.dK ws) := le5.keep _ _ (by rw [le4.m, le3.m, m2]; exact hDM) (le4.keep _ _ (by rw [le3.m, m2]; exact hDM) (le3.keep _ _ (by rw [m2]; exact hDM) hl2))
    have r5' : TabR (hid W5.O H5) ws (kvs.take i) := ⟨r2.1, ((r2.2.mono le3.hid).mono le4.hid).mono le5.hid⟩
    have hO5 : Dl ∈ W5.O := le5.sub _ (le4.sub _ (le3.sub _ hO2))
    have leA := (((le2.tr le3).tr le4).tr le5)
    have hB5 : Dl ∉ W5.B := le_notB leA hDO
    have wl : ws.length = i := by
      have := congrArg List.length r5'.1
      rw [List.length_map, List.length_map, List.length_take] at this
      omega
    have fresh : valV ws (Sum.inl (kvs[i]).1) = none := by
      have t := tab_val r5' (kvs[i]).1
      have nf : (kvs.take i).find? (fun p => decide (p.1 = (kvs[i]).1)) = none := by
        rw [List.find?_eq_none]
        intro p hp hpe
        have hpe := of_decide_eq_true hpe
        obtain ⟨j, hj, ej⟩ := List.getElem_of_mem hp
        rw [List.length_take] at hj
        have hj2 : j < i := by omega
        rw [List.getElem_take] at ej
        have e1 : (kvs.map (·.1))[j]'(by rw [List.length_map]; omega) = (kvs.map (·.1))[i]'(by rw [List.length_map]; exact hlt') := by
          rw [List.getElem_map, List.getElem_map, ej, hpe]
        have := (List.getElem_inj hnk).mp e1
        omega
      rw [nf] at t
      exact t
    have leB : Le W1 H1 W5 (upd H5 Dl (.dK (putK ws (Sum.inl (kvs[i]).1) v2))) := by
      refine ⟨leA.b, leA.m, leA.sub, leA.new, fun b o hb e => ?_, leA.ok0, leA.ok.write hO5 hB5⟩
      rw [upd_ne (ne_of_none e hD)]; exact leA.keep b o hb e
    refine ⟨ws, Sum.inl (kvs[i]).1, rfl, hl5, small_lineT (by omega), hlt, W5, _, leB, hO5, upd_same, ?_⟩
    rw [putK_new _ fresh, hid_upd hO5]
    have et : kvs.take (i + 1) = kvs.take i ++ [kvs[i]] := by rw [List.take_add_one, List.getElem?_eq_getElem hlt']; rfl
    rw [et]
    refine ⟨by rw [List.map_append, List.map_append, r5'.1]; rfl, ?_⟩
    rw [List.map_append, List.map_append]
    exact r5'.2.app (.one r5)
  · have e : i = us.length := by omega
    subst e
    refine .inl ⟨s2.2 rfl, ?_⟩
    have leS := le2.show_ hDO
    refine q (.ref Dl) (.tab kvs) _ H2 hk (le1.tr leS) ⟨Dl, ws, rfl, hid_of (fun z => of_decide_eq_true (List.mem_filter.mp z).2 rfl) hl2, ?_⟩ trivial
    have e2 : kvs.take us.length = kvs := by rw [hlen, List.take_length]
    rw [e2] at r2
    exact ⟨r2.1, r2.2.mono (hid_less fun a ha => (List.mem_filter.mp ha).1)⟩
theorem ps_setDc {i : Nat} {y : Str} {py : Pos} {kx vx : Expr} {own : List (Str × Nat)} {spos : Pos} {wi : TI} {g : TG} {tt : TT} {tk tv : TE} (hc : X.calm = true) (hN : X.N.Nodup) (hy : X.N[i]? = some y) (hyl : X.env.scope.names.lookup y = some .local)
    (hsw : swapsWith (.DictComp kx vx [⟨tg, iter, ifs, 0⟩] scope pos) (some (.Name y py)) spos.line X.env = pure true) (hi : PI X tg iter wi) (ok : BlkOk X.N X.env.scope scope own)
    (hg : ∀ (s : Shared) (H : Hp) (C : Addr) (cl : List (Str × Addr)) (fp : List Addr), PG (X.blk s H scope (compEnvC scope cl C X.env) fp) tg g) (ht : ∀ (s : Shared) (H : Hp) (C : Addr) (cl : List (Str × Addr)) (fp : List Addr), PTs (X.blk s H scope (compEnvC scope cl C X.env) fp) ifs tt)
    (hk : ∀ (s : Shared) (H : Hp) (C : Addr) (cl : List (Str × Addr)) (fp : List Addr), PE (X.blk s H scope (compEnvC scope cl C X.env) fp) kx tk)
    (he : ∀ (s : Shared) (H : Hp) (C : Addr) (cl : List (Str × Addr)) (fp : List Addr), PE (X.blk s H scope (compEnvC scope cl C X.env) fp) vx tv) (hs : ∀ x, foldedSetIterable iter X.env x = pure x := by intro _; rfl) :
    PS X (.Assign [.Name y py] (.DictComp kx vx [⟨tg, iter, ifs, 0⟩] scope pos) spos) (tAsg (tDc wi g tt tk tv (own.map (·.2))) (gName i)) := by
  refine ⟨fun pins s σ H D I h => ?_⟩
  rw [exec_Assign_Name_used _ _ _ _ hsw]
  refine wpAny_bind (wpAny_standAt (wpAny_bind ?_))
  show wpAny _ X.A (do let _ ← comprehension (.DictComp kx vx [⟨tg, iter, ifs, 0⟩] scope pos) scope X.env (firstIterPos [⟨tg, iter, ifs, 0⟩] pos) newDict false (eval iter X.env) (some (assign (.Name y py) X.env))) _ _ s
  have h : tDc wi g tt tk tv (own.map (·.2)) σ H (fun x H1 => gName i x σ H1 D.nx) := h
  refine wpAny_bind (thn (dc_core (Qf := fun _ s' => SP X pins D .next s') hc hN I hi ok hg ht hk he hs h fun L C s' m H' I' q hn f => ?_) fun _ s' hq => wpAny_pure (wpAny_pure hq))
  show wpAny _ _ (assign (.Name y py) X.env (.ref L)) _ _ _
  refine wpAny_assign_Name (store_ok2 (v := V.ref L) I' hN hy (.inl hyl) rfl (fun s2 I2 ⟨a, sb, ha⟩ => ?_) (.inr hyl))
  obtain ⟨f0, f1, f2, f3, f4, f5⟩ := f
  have haC : C ≠ a := by
    rcases ha with z | z
    · rw [z]; exact f1
    · exact fun e => f4 y a z e.symm
  refine ⟨m, hn.sameBut sb haC, fun h3 sb3 => ?_⟩
  exact ⟨_, H', I2.turned (t' := s2.toks) (fun b o hb e => (sb3.2 b hb).trans e) f0 f1 f3 f4 f5, q⟩
theorem ds_setDc (i : Nat) {E : DEnd} {y : Str} {py spos : Pos} {own : List (Str × Nat)} {tup : Bool} {js : List Nat} {kx vx : Expr} (hc : X.calm = true) (nd : X.N.Nodup) (ok : BlkOk X.N X.env.scope scope own) (hjs : own.map (·.2) = js) (hnd : js.Nodup) (hg : TgOk X scope tg tup js)
    (it : DI X tg iter tup js δ fun us => ∃ kvs : List (Int × D), us.length = kvs.length ∧ us.length < 100000 ∧ (kvs.map (·.1)).Nodup ∧ (∀ (i : Nat) (ds : List D) (p : Int × D), us[i]? = some ds → kvs[i]? = some p → BE X scope kx (setD δ js ds) (fun y => y = .int p.1) ∧ BE X scope vx (setD δ js ds) (fun y => y = p.2)) ∧ E.nx (δ.set i (some (.tab kvs))))
    (sw : swapsWith (.DictComp kx vx [⟨tg, iter, [], 0⟩] scope pos) (some (.Name y py)) spos.line X.env = pure true := by rfl) (hy : X.N[i]? = some y := by rfl) (hyl : X.env.scope.names.lookup y = some .local := by rfl)
    (hs : ∀ x, foldedSetIterable iter X.env x = pure x := by intro _; rfl) : DSt X (.Assign [.Name y py] (.DictComp kx vx [⟨tg, iter, [], 0⟩] scope pos) spos) δ E := fun W0 H0 G W H σ at_ Z z => by
  subst hjs
  obtain ⟨wi, hp, hr⟩ := it
  refine wS_of (ps_setDc (i := i) hc nd hy hyl sw hp ok hg (pts_wb (X := X) (ifs := [])) (pe_wb (X := X) (e := kx)) (pe_wb (X := X) (e := vx)) hs) ?_
  refine td_dc (k := fun s => E.nx (δ.set i (some s))) hnd hr at_.le.ok at_.r (fun x H1 => gName i x σ H1 Z.nx) fun v s W' H' hk le rp fr => ?_
  exact z.nx _ _ _ H' hk (at_.set le rp fr i)
/-- a list of pairs, two names -/
theorem dis_listP (j1 j2 : Nat) {k : List (List D) → Prop} (h : DE X iter δ fun d => ∃ ps : List (D × D), d = .list (ps.map fun q => .tuple [q.1, q.2]) ∧ k (ps.map fun q => [q.1, q.2])) : DIs X tg iter true [j1, j2] δ k :=
  ⟨_, pi_list pe_w, fun σ H W ok R R' q => h σ H W ok R _ fun v d W1 H1 ⟨ps, ed, hk⟩ e1 r1 => by
    subst ed
    cases r1 with
    | @lst l vs _ h3 h4 =>
      refine ⟨l, rfl, ⟨vs, SqL.of (hid_some h3).2⟩, q _ _ W1 H1 hk e1 ?_⟩
      intro W2 H2 ok2 g _ i
      have hc := (hid_some (g _ _ h3)).2
      refine ⟨fun u hu => ?_, stop_le fun hi => ⟨vs, SqL.of hc, by rw [h4.len]; simpa using hi⟩⟩
      rw [List.getElem?_map] at hu
      cases hq : ps[i]? with
      | none => rw [hq] at hu; cases hu
      | some z =>
        rw [hq] at hu; cases hu
        obtain ⟨w, hw, rw_⟩ := h4.get (i := i) (d := .tuple [z.1, z.2]) (by rw [List.getElem?_map, hq]; rfl)
        refine ⟨⟨vs, w, SqL.of hc, hw⟩, fun x H3 ⟨e3, hx⟩ => ?_⟩
        subst e3
        have := hx vs (SqL.of hc)
        rw [hw] at this
        cases this
        cases rw_ with
        | @tup T us _ f1 f2 =>
          refine ⟨.rfl' ok2, fun σ Q qq => ?_⟩
          refine ⟨T, us, rfl, SqT.of (hid_some (g _ _ f1)).2, f2.len, gs_run [j1, j2] us σ _ f2.len (qq us f2.len (f2.mono g))⟩⟩
end
end Dt

/-! Feed: the law's feed, read and written; its numbers are any. -/
namespace Dt
open PySem PySem.Spec L2
theorem Le.feedW {W : Wd} {H : Hp} {fd c : Addr} {cells : List Int} {n' r' t' : Int} (ok : WOk W H) (hM : fd ∈ W.M) (hc : c ∉ W.O) (h : H c = some (.lst (cells.map V.int))) : Le W H W (upd H fd (.dK (feedD c n' r' t'))) := by
  have hO : fd ∈ W.O := ok.bo _ (ok.mb _ hM)
  have hne : ∀ a, a ∉ W.O → a ≠ fd := fun a ha z => ha (z ▸ hO)
  refine ⟨rfl, rfl, fun _ h => h, fun _ h => .inl h, fun a o ha e => ?_, ok, ⟨fun l hl z => ?_, ok.mb, ok.bo, fun f hf => ?_⟩⟩
  · rw [upd_ne (show a ≠ fd from fun z => ha (z ▸ hM))]; exact e
  · by_cases e : l = fd
    · subst e; rw [upd_same] at z; cases z
    · rw [upd_ne e] at z; exact ok.there l hl z
  · by_cases e : f = fd
    · subst e
      exact ⟨c, cells, n', r', t', upd_same, hc, by rw [upd_ne (hne c hc)]; exact h⟩
    · obtain ⟨c2, cells2, a, b, d, h1, h2, h3⟩ := ok.feed f hf
      exact ⟨c2, cells2, a, b, d, by rw [upd_ne e]; exact h1, h2, by rw [upd_ne (hne c2 h2)]; exact h3⟩
section
variable {X : Cx} {e : Expr} {δ : DS} {pos : Pos}
/-- a number of the feed -/
theorem de_feedI (n : Nat) (hu : X.A.units + 1 < cLine) {x : Str} {p p2 : Pos} {y : String} {j} {k : D → Prop} (hd : δ[n]? = some (some .fee)) (hy : ∀ c a b t, ∃ i, valV (feedD c a b t) (Sum.inr (Str.ofString y)) = some (.int i)) (h : ∀ i : Int, k (.int i))
    (hs : NoSl (.Constant (.str y) j p2) := by exact fun _ _ => rfl) (hN : X.N[n]? = some x := by rfl) (hv : Vis X.env.scope x := by first | exact Or.inl rfl | exact Or.inr (Or.inl rfl) | exact Or.inr (Or.inr rfl))
    (hx : (x == ("__debug__" : Str)) = false := by decide) (hc : (x == ("__classdict__" : Str)) = false := by decide) : DE X (.Subscript (.Name x p) (.Constant (.str y) j p2) pos) δ k := fun σ H W ok R Q q => by
  obtain ⟨v, h1, fd, h2, h3⟩ := R.at_ n _ hd
  subst h2
  refine wE_of (pe_dget hu (pe_var hN hv hx hc) pe_w hs) ⟨_, h1, (de_str (k := fun d => d = .str (Str.ofString y)) rfl) σ H W ok R _ fun v2 d2 W2 H2 ed e2 r2 => ?_⟩
  subst ed; cases r2
  obtain ⟨c, cells, a, b, t, g1, g2, g3⟩ := e2.ok.feed fd (by rw [e2.m]; exact h3)
  obtain ⟨i, hi⟩ := hy c a b t
  refine ⟨fd, .int i, rfl, ?_, q _ _ W2 H2 (h i) e2 (.int i)⟩
  have g := DGet.k (k := Sum.inr (Str.ofString y)) g1
  rw [hi] at g
  exact g
/-- the feed's cells -/
theorem de_feedC (n : Nat) (hu : X.A.units + 1 < cLine) {x : Str} {p p2 : Pos} {y : String} {j} {k : D → Prop} (hd : δ[n]? = some (some .fee)) (hy : ∀ c a b t, valV (feedD c a b t) (Sum.inr (Str.ofString y)) = some (.ref c)) (h : ∀ cells : List Int, k (.list (cells.map .int)))
    (hs : NoSl (.Constant (.str y) j p2) := by exact fun _ _ => rfl) (hN : X.N[n]? = some x := by rfl) (hv : Vis X.env.scope x := by first | exact Or.inl rfl | exact Or.inr (Or.inl rfl) | exact Or.inr (Or.inr rfl))
    (hx : (x == ("__debug__" : Str)) = false := by decide) (hc : (x == ("__classdict__" : Str)) = false := by decide) : DE X (.Subscript (.Name x p) (.Constant (.str y) j p2) pos) δ k := fun σ H W ok R Q q => by
  obtain ⟨v, h1, fd, h2, h3⟩ := R.at_ n _ hd
  subst h2
  refine wE_of (pe_dget hu (pe_var hN hv hx hc) pe_w hs) ⟨_, h1, (de_str (k := fun d => d = .str (Str.ofString y)) rfl) σ H W ok R _ fun v2 d2 W2 H2 ed e2 r2 => ?_⟩
  subst ed; cases r2
  obtain ⟨c, cells, a, b, t, g1, g2, g3⟩ := e2.ok.feed fd (by rw [e2.m]; exact h3)
  have hi := hy c a b t
  refine ⟨fd, .ref c, rfl, ?_, q _ _ W2 H2 (h cells) e2 (.lst (hid_of g2 g3) (Rps.ofInts cells))⟩
  have g := DGet.k (k := Sum.inr (Str.ofString y)) g1
  rw [hi] at g
  exact g
/-- a number of the feed set -/
theorem ds_feedS (i : Nat) (hu : X.A.units + 1 < cLine) {E : DEnd} {x : Str} {p1 p2 p3 : Pos} {y : String} {j} (hd : δ[i]? = some (some .fee)) (h : DE X e δ fun d => ∃ m : Int, d = .int m ∧ E.nx δ)
    (hy : ∀ c a b t m, ∃ a' b' t', putK (feedD c a b t) (Sum.inr (Str.ofString y)) (.int m) = feedD c a' b' t')
    (hN : X.N[i]? = some x := by rfl)
    (hv : Vis X.env.scope x := by first | exact Or.inl rfl | exact Or.inr (Or.inl rfl) | exact Or.inr (Or.inr rfl)) (hx : (x == ("__debug__" : Str)) = false := by decide) (hcd : (x == ("__classdict__" : Str)) = false := by decide)
    (ha : ∀ v, assign (.Subscript (.Name x p1) (.Constant (.str y) j p3) p2) X.env v = (do
      let ov ← holding [v] (eval (.Name x p1) X.env)
      let iv ← holding [v, ov] (eval (.Constant (.str y) j p3) X.env)
      standAt p2
      holding [v, ov, iv] (setItem ov iv v)
      release [v, ov, iv] []) := by intro _; rfl)
    (hs : swapsWithSole [.Subscript (.Name x p1) (.Constant (.str y) j p3) p2] e pos.line X.env = pure false := by rfl) (hw : swappedStores [.Subscript (.Name x p1) (.Constant (.str y) j p3) p2] e X.env = pure none := by rfl)
    (h1 : (assignEach [.Subscript (.Name x p1) (.Constant (.str y) j p3) p2] X.env).map (·.2) = [assign (.Subscript (.Name x p1) (.Constant (.str y) j p3) p2) X.env] := by rfl) : DSt X (.Assign [.Subscript (.Name x p1) (.Constant (.str y) j p3) p2] e pos) δ E := fun W0 H0 G W H σ at_ Z z =>
  wS_of (ps_asg pe_w (pg_sub (pe_var hN hv hx hcd) pe_w (set_dict hu) ha) hs hw h1) (h σ H W at_.le.ok at_.r _ fun v d W1 H1 ⟨m, ed, hk⟩ e1 r1 => by
    subst ed; cases r1
    obtain ⟨v0, g1, fd, g2, g3⟩ := (at_.r.le e1).at_ i _ hd
    subst g2
    refine ⟨_, g1, (de_str (k := fun d => d = .str (Str.ofString y)) rfl) σ H1 W1 e1.ok (at_.r.le e1) _ fun v2 d2 W2 H2 ed e2 r2 => ?_⟩
    subst ed; cases r2
    have hM : fd ∈ W2.M := by rw [e2.m]; exact g3
    obtain ⟨c, cells, a, b, t, f1, f2, f3⟩ := e2.ok.feed fd hM
    obtain ⟨a', b', t', hp⟩ := hy c a b t m
    refine ⟨fd, upd H2 fd (.dK (feedD c a' b' t')), rfl, .inl ⟨_, Sum.inr (Str.ofString y), f1, rfl, small_lineT (by show 4 < 100000; decide), by rw [hp]⟩, ?_⟩
    exact z.nx _ _ W2 _ hk (((at_.go e1).go e2).go (.feedW e2.ok hM f2 f3)))
theorem fk_turn (c a b t) : ∃ i, valV (feedD c a b t) (Sum.inr (Str.ofString "turn")) = some (.int i) := ⟨t, by kernel_rfl⟩
theorem fk_next (c a b t) : ∃ i, valV (feedD c a b t) (Sum.inr (Str.ofString "next")) = some (.int i) := ⟨a, by kernel_rfl⟩
theorem fk_rest (c a b t) : ∃ i, valV (feedD c a b t) (Sum.inr (Str.ofString "rest")) = some (.int i) := ⟨b, by kernel_rfl⟩
theorem fk_cells (c a b t) : valV (feedD c a b t) (Sum.inr (Str.ofString "cells")) = some (.ref c) := by kernel_rfl
theorem fp_turn (c a b t m) : ∃ a' b' t', putK (feedD c a b t) (Sum.inr (Str.ofString "turn")) (.int m) = feedD c a' b' t' := ⟨a, b, m, by kernel_rfl⟩
theorem fp_next (c a b t m) : ∃ a' b' t', putK (feedD c a b t) (Sum.inr (Str.ofString "next")) (.int m) = feedD c a' b' t' := ⟨m, b, t, by kernel_rfl⟩
theorem fp_rest (c a b t m) : ∃ a' b' t', putK (feedD c a b t) (Sum.inr (Str.ofString "rest")) (.int m) = feedD c a' b' t' := ⟨a, m, t, by kernel_rfl⟩
theorem ds_par3 {a b c : Expr} (i j l : Nat) {E : DEnd} {x y u : Str} {px py pu pt : Pos} {kt k2 pt2} (hc : X.calm = true) (nd : X.N.Nodup) (h : DV X a δ fun s => DV X b δ fun t => DV X c δ fun r => E.nx (((δ.set i (some s)).set j (some t)).set l (some r)))
    (hi : X.N[i]? = some x := by rfl) (hj : X.N[j]? = some y := by rfl) (hl : X.N[l]? = some u := by rfl) (hij : i ≠ j := by decide) (hil : i ≠ l := by decide) (hjl : j ≠ l := by decide) (hx : X.env.scope.names.lookup x = some .local := by rfl) (hy : X.env.scope.names.lookup y = some .local := by rfl) (hu : X.env.scope.names.lookup u = some .local := by rfl)
    (hw : swappedStores [.Tuple [.Name x px, .Name y py, .Name u pu] kt pt] (.Tuple [a, b, c] k2 pt2) X.env = pure (some [x, y, u]) := by rfl)
    (hs : swapsWithSole [.Tuple [.Name x px, .Name y py, .Name u pu] kt pt] (.Tuple [a, b, c] k2 pt2) pos.line X.env = pure false := by rfl)
    (hs1 : starEach [a, b, c] X.env = (false, eval a X.env) :: starEach [b, c] X.env := by rfl) (hs2 : starEach [b, c] X.env = (false, eval b X.env) :: starEach [c] X.env := by rfl) (hs3 : starEach [c] X.env = (false, eval c X.env) :: starEach [] X.env := by rfl) :
    DSt X (.Assign [.Tuple [.Name x px, .Name y py, .Name u pu] kt pt] (.Tuple [a, b, c] k2 pt2) pos) δ E := fun W0 H0 G W H σ at_ Z z =>
  wS_of (ps_par3 hc nd hi hj hl hij hil hjl hx hy hu (pa_cons pe_w (pa_cons pe_w (pa_cons pe_w pa_nil hs3) hs2) hs1) hw hs) (h σ H W at_.le.ok at_.r _ fun v s W1 H1 hb e1 r1 f1 => hb σ H1 W1 e1.ok (at_.r.le e1) _ fun u t W2 H2 hd e2 r2 f2 => hd σ H2 W2 e2.ok ((at_.r.le e1).le e2) _ fun w r W3 H3 hk e3 r3 f3 =>
    ⟨v, u, w, rfl, z.nx _ _ W3 H3 hk (((at_.set e1 r1 f1 i).set e2 r2 f2 j).set e3 r3 f3 l)⟩)
theorem de_pow {a b : Expr} {k : D → Prop} (h : DE X a δ fun x => ∃ i, x = .int i ∧ DE X b δ fun y => ∃ j, y = .int j ∧ CPow i j ∧ k (.int (i ^ j.toNat))) : DE X (.BinOp a .Pow b pos) δ k := de_opC op_pow h
end
end Dt

/-! Txt: the text's defs by their places, and what is known of them. -/
namespace Dt
open PySem PySem.Spec L2
def tp (i : Nat) : Stmt := PySem.Challenge.pw_mendfew_k41_whole_goings_in_any_order.main.body.getD i (.Pass ⟨0, 0, 0, 0⟩)
abbrev FnP (K : PySem.W.Frag) (x : Str) (i : Nat) (dvs : List V) (f : Addr) (fd : FuncData) : Prop := FunD K x x (defArgs (tp i)) (defBody (tp i)) (defScope (tp i)) dvs [] f fd
/-- the def stands there -/
def Def (K : PySem.W.Frag) (mg : Str → Option Value) (x : Str) (i : Nat) (dvs : List V) : Prop := ∃ f fd, FnP K x i dvs f fd ∧ mg x = some (.ref f)
/-- the built-ins' names are their own -/
structure Bl (mg : Str → Option Value) : Prop where
  isinstance : mg "isinstance" = none
  int : mg "int" = none
  bool : mg "bool" = none
  tuple : mg "tuple" = none
  list : mg "list" = none
  str : mg "str" = none
  all : mg "all" = none
  any : mg "any" = none
  sum : mg "sum" = none
  zip : mg "zip" = none
  enumerate : mg "enumerate" = none
  range : mg "range" = none
  len : mg "len" = none
  sorted : mg "sorted" = none
  set : mg "set" = none
  min : mg "min" = none
  TOP : ∃ t, mg "TOP" = some (.int 1000000 t)
  MOST : ∃ t, mg "MOST_SIZE" = some (.int 100 t)
section
variable {P : Program} {w : World} {K : PySem.W.Frag} {mg : Str → Option Value} {base : Heap}
/-- a def without defaults, by its body -/
theorem cal0 {x : Str} {i : Nat} {N ps : List Str} {lv : Nat} {F : FS} (Df : Def K mg x i []) (Sc : FnScope N ps (defScope (tp i)))
    (hb : ∀ (kV doc pm : Value) (an : Option Addr) (cdv ct : Value) (us : List Value), us.length = ps.length → bindArgs (PySem.W.fnOf x x (defArgs (tp i)) (defBody (tp i)) (defScope (tp i)) .none kV doc pm an cdv ct) ⟨us, []⟩ = pure (ps.zip us))
    (len : ∀ ss k, F ss k → ss.length = ps.length)
    (h : ∀ (f : Addr) (cdv : Value) (A : Around) (outer : List Env) (s : Shared) (H : Hp) (E : XK), Room lv (A.deeper (PyProof.Rows.envOfC x (defScope (tp i)) s.heap.objs.size f cdv)) → ∀ ss k, F ss k →
      DSs (bodyX P w K mg base N x (defScope (tp i)) f cdv A outer s H E) (defBody (tp i)) (startD N ss) { nx := fun _ => k .none, rt := k }) : Cal P w K mg base x (lv + 1) [] F := by
  obtain ⟨f, fd, hF, hm⟩ := Df
  exact ⟨f, fd, ps, [], [], cal_of hF Sc len (h f), hm, hF.kp, hF.bindsN hb, .nil, fun _ => .nil⟩
end
end Dt

/-! Auto: the walk's easy steps as one tactic. -/
namespace Dt
open PySem PySem.Spec L2
theorem at_head {α : Type} {x : α} {xs : List α} : atI (x :: xs) 0 = some x := atI_ix (n := 0) rfl rfl
theorem iy {c : Bool} {P Q : Prop} (h : c = true) (p : P) : if c = true then P else Q := by rw [if_pos h]; exact p
theorem ino {c : Bool} {P Q : Prop} (h : c = false) (p : Q) : if c = true then P else Q := by rw [if_neg (by rw [h]; decide)]; exact p
theorem isp {c : Bool} {P Q : Prop} (p : c = true → P) (q : c = false → Q) : if c = true then P else Q := by
  cases c with
  | true => exact iy rfl (p rfl)
  | false => exact ino rfl (q rfl)
/-- a yes-or-no split with the fact in hand -/
theorem isd {p : Prop} [Decidable p] {P Q : Prop} (a : p → P) (b : ¬ p → Q) : if decide p = true then P else Q := isp (fun h => a (of_decide_eq_true h)) (fun h => b (of_decide_eq_false h))
theorem isn {p : Prop} [Decidable p] {P Q : Prop} (a : ¬ p → P) (b : p → Q) : if (!decide p) = true then P else Q := by
  by_cases h : p
  · simp only [h, decide_true, Bool.not_true]; rw [if_neg (by decide)]; exact b h
  · simp only [h, decide_false, Bool.not_false]; rw [if_pos trivial]; exact a h
theorem iyd {p : Prop} [Decidable p] {P Q : Prop} (h : p) (a : P) : if decide p = true then P else Q := iy (decide_eq_true h) a
theorem ind {p : Prop} [Decidable p] {P Q : Prop} (h : ¬ p) (a : Q) : if decide p = true then P else Q := ino (decide_eq_false h) a
theorem iyn {p : Prop} [Decidable p] {P Q : Prop} (h : ¬ p) (a : P) : if (!decide p) = true then P else Q := iy (by simp [h]) a
theorem inn {p : Prop} [Decidable p] {P Q : Prop} (h : p) (a : Q) : if (!decide p) = true then P else Q := ino (by simp [h]) a

theorem hu_of {k : Nat} {A : Around} (r : Room k A) : A.units + 64 < cLine := by have := r.un; omega
theorem hu1_of {k : Nat} {A : Around} (r : Room k A) : A.units + 1 < cLine := by have := r.un; omega
section
variable {X : Cx} {e a b c elt tg iter : Expr} {es : List Expr} {δ : DS} {pos : Pos} {scope : Scope}
theorem de_isiC (Tn : String) (t : String) (c : Bool) {p p2 : Pos} {T : Str} {k : D → Prop} (hm : X.mg "isinstance" = none) (hT : X.mg T = none) (hc : kitB t Tn = some c) (hv : bootBuiltins T = some (.type Tn))
    (h : DE X e δ fun d => tyD d = some t ∧ k (.bool c)) (hg : Gl X "isinstance" := by rfl) (hg2 : Gl X T := by rfl) (hn : T ≠ Str.ofString "__name__" := by decide) (hx : (T == ("__debug__" : Str)) = false := by decide) (hs : starEach [e, .Name T p2] X.env = (false, eval e X.env) :: starEach [.Name T p2] X.env := by rfl) :
    DE X (.Call (.Name "isinstance" p) [e, .Name T p2] [] pos) δ k :=
  de_isi (Tn := Tn) hm hT hv (db_of (h.imp fun d hd => ⟨t, c, hd.1, hc, hd.2⟩)) hg hg2 hn hx hs
theorem de_callR {x : Str} {p : Pos} {lv lv' : Nat} {dd : List D} {F : FS} {k : D → Prop} (C : Cal X.prog X.w X.K X.mg X.base x lv dd F) (hr : Room lv' X.A) (h : DAs X (e :: es) δ fun ss => F (ss ++ dd.map .sh) k) (hl : lv ≤ lv' := by decide)
    (hg : Gl X x := by rfl) (hn : x ≠ Str.ofString "__name__" := by decide) (hx : (x == ("__debug__" : Str)) = false := by decide) (hs : starEach (e :: es) X.env = (false, eval e X.env) :: starEach es X.env := by rfl) (hpl : (backTo pos (starEach es X.env)).any (·.1) = false := by rfl) :
    DE X (.Call (.Name x p) (e :: es) [] pos) δ k := de_call C (hr.mono hl) h hg hx hs hpl
def LocB (X : Cx) (scope : Scope) (x : Str) : Prop := (∀ cl C, (compEnvC scope cl C X.env).scope.names.lookup x = some .local) ∨ ((∀ cl C, (compEnvC scope cl C X.env).scope.names.lookup x = some .cell) ∧ scope.names.lookup x = some .cell)
theorem pgB {x : Str} {j : Nat} (nd : X.N.Nodup) (hi : X.N[j]? = some x) (hl : LocB X scope x) (s : Shared) (H : Hp) (C : Addr) (cl : List (Str × Addr)) (fp : List Addr) : PG (X.blk s H scope (compEnvC scope cl C X.env) fp) (.Name x pos) (gName j) :=
  pg_name (X := X.blk s H scope (compEnvC scope cl C X.env) fp) nd hi (hl.elim (fun h => .inl (h cl C)) fun h => .inr (h.1 cl C)) (hl.elim (fun h => .inr (h cl C)) fun h => .inl (by show (scope.names.lookup x == some .cell) = true; rw [h.2]; rfl))
/-- a comprehension's target: one name -/
theorem tg1 (j : Nat) {x : Str} (nd : X.N.Nodup) (hi : X.N[j]? = some x := by rfl) (hl : LocB X scope x := by first | exact .inl fun _ _ => rfl | exact .inr ⟨fun _ _ => rfl, rfl⟩) : TgOk X scope (.Name x pos) false [j] := fun s H C cl fp => pgB nd hi hl s H C cl fp
/-- two names -/
theorem tg2 (j1 j2 : Nat) {x y : Str} {p1 p2 : Pos} {kk : Nat} (hc : X.calm = true) (nd : X.N.Nodup) (hi : X.N[j1]? = some x := by rfl) (hj : X.N[j2]? = some y := by rfl) (hl : LocB X scope x := by first | exact .inl fun _ _ => rfl | exact .inr ⟨fun _ _ => rfl, rfl⟩) (hl2 : LocB X scope y := by first | exact .inl fun _ _ => rfl | exact .inr ⟨fun _ _ => rfl, rfl⟩) :
    TgOk X scope (.Tuple [.Name x p1, .Name y p2] kk pos) true [j1, j2] := fun s H C cl fp =>
  pg_tup (X := X.blk s H scope (compEnvC scope cl C X.env) fp) (n := 2) hc (pgs_cons (pgB nd hi hl s H C cl fp) (pgs_cons (pgB nd hj hl2 s H C cl fp) pgs_nil))
theorem fg1 (j : Nat) {x : Str} (nd : X.N.Nodup) (hi : X.N[j]? = some x := by rfl) (hl : Loc X.env.scope x := by first | exact .inl rfl | exact .inr rfl) (hf : X.fn x = true ∨ X.env.scope.names.lookup x = some .local := by first | exact .inl rfl | exact .inr rfl) : PG X (.Name x pos) (tgG X.K false [j]) := pg_name nd hi hl hf
theorem fg2 (j1 j2 : Nat) {x y : Str} {p1 p2 : Pos} {kk : Nat} (hc : X.calm = true) (nd : X.N.Nodup) (hi : X.N[j1]? = some x := by rfl) (hj : X.N[j2]? = some y := by rfl) (hl : Loc X.env.scope x := by first | exact .inl rfl | exact .inr rfl) (hl2 : Loc X.env.scope y := by first | exact .inl rfl | exact .inr rfl)
    (hf : X.fn x = true ∨ X.env.scope.names.lookup x = some .local := by first | exact .inl rfl | exact .inr rfl) (hf2 : X.fn y = true ∨ X.env.scope.names.lookup y = some .local := by first | exact .inl rfl | exact .inr rfl) : PG X (.Tuple [.Name x p1, .Name y p2] kk pos) (tgG X.K true [j1, j2]) :=
  pg_tup (n := 2) hc (pgs_cons (pg_name nd hi hl hf) (pgs_cons (pg_name nd hj hl2 hf2) pgs_nil))
theorem DI.imp {tup : Bool} {js : List Nat} {k k' : List (List D) → Prop} (h : DI X tg iter tup js δ k) (hk : ∀ us, k us → k' us) : DI X tg iter tup js δ k' := by
  obtain ⟨wi, pi, q⟩ := h
  exact ⟨wi, pi, fun σ H W ok R Rr hr => q σ H W ok R Rr fun J us W' H' h le st => hr J us W' H' (hk us h) le st⟩
theorem DIs.imp {tup : Bool} {js : List Nat} {k k' : List (List D) → Prop} (h : DIs X tg iter tup js δ k) (hk : ∀ us, k us → k' us) : DIs X tg iter tup js δ k' := by
  obtain ⟨wi, pi, q⟩ := h
  exact ⟨wi, pi, fun σ H W ok R Rr hr => q σ H W ok R Rr fun J us W' H' h le st => hr J us W' H' (hk us h) le st⟩
theorem EndOk.imp {W0 : Wd} {H0 G : Hp} {E E' : DEnd} {Z : Ends} (h : EndOk W0 H0 G E' Z) (h1 : ∀ δ, E.nx δ → E'.nx δ) (h2 : ∀ d, E.rt d → E'.rt d) (h3 : ∀ δ, E.bk δ → E'.bk δ) (h4 : ∀ δ, E.ct δ → E'.ct δ) : EndOk W0 H0 G E Z :=
  ⟨fun δ σ W H e => h.nx δ σ W H (h1 δ e), fun v d W H e => h.rt v d W H (h2 d e), fun δ σ W H e => h.bk δ σ W H (h3 δ e), fun δ σ W H e => h.ct δ σ W H (h4 δ e)⟩
/-- the ways of a statement meet again -/
theorem ds_mid {st : Stmt} {sts : List Stmt} {E : DEnd} (J : DS → Prop) (h : DSt X st δ { E with nx := J }) (h2 : ∀ δ', J δ' → DSs X sts δ' E) : DSs X (st :: sts) δ E :=
  ds_cons fun W0 H0 G W H σ a Z z => h W0 H0 G W H σ a Z (z.imp (fun δ e => h2 δ e) (fun _ e => e) (fun _ e => e) fun _ e => e)
theorem ds_ex {E : DEnd} (h : DE X e δ fun _ => E.nx δ) (hsw : swapsWith e none pos.line X.env = pure false := by rfl) : DSt X (.Expr e pos) δ E := fun W0 H0 G W H σ at_ Z z =>
  wS_of (ps_expr pe_w hsw) (h σ H W at_.le.ok at_.r _ fun v d W1 H1 hk le r => z.nx _ _ W1 _ hk (at_.go le))
theorem do_none {k : Option Int → Prop} (h : k none) : DO X none δ k := h
theorem do_some {k : Option Int → Prop} (h : DE X e δ fun d => ∃ i, d = .int i ∧ k (some i)) : DO X (some e) δ k := h
theorem rng_eq (n : Nat) : rngD 0 1 n = (List.range n).map fun (i : Nat) => (PyData.int (i : Int)) := by
  unfold rngD
  refine List.map_congr_left fun i _ => ?_
  simp
/-- range(n) -/
theorem dis_rngN (j : Nat) {p : Pos} {k : List (List D) → Prop} (hm : X.mg "range" = none) (h : DE X a δ fun d => ∃ n : Nat, d = .int n ∧ n < 100000 ∧ k (ones ((List.range n).map fun (i : Nat) => (PyData.int (i : Int))))) (hg : Gl X "range" := by rfl) (hs : starEach [a] X.env = (false, eval a X.env) :: starEach [] X.env := by rfl) : DIs X tg (.Call (.Name "range" p) [a] [] pos) false [j] δ k :=
  dis_rng1 j hm (h.imp fun d ⟨n, hd, hn, hk⟩ => ⟨n, hd, by omega, by omega, by rw [Int.toNat_natCast, rng_eq]; exact hk⟩) hg hs
theorem zipWith_map2 {α β : Type} (f : α → D) (g : β → D) : ∀ (xs : List α) (ys : List β), twos (xs.map f) (ys.map g) = (xs.zip ys).map fun q => [f q.1, g q.2]
  | [], _ => rfl
  | _ :: _, [] => rfl
  | x :: xs, y :: ys => by
    show [f x, g y] :: twos (xs.map f) (ys.map g) = _
    rw [zipWith_map2 f g xs ys]; rfl
theorem cut_from (ds : List D) (m : Nat) : cutD ds (some (m : Int)) none = ds.drop m := by
  unfold cutD
  rw [HT.sIx_nat, HT.sIx_none]
  by_cases h : m ≤ ds.length
  · rw [Nat.min_eq_left h, List.take_of_length_le (by simp)]
  · rw [Nat.min_eq_right (by omega), List.drop_of_length_le (Nat.le_refl _), List.drop_of_length_le (by omega), List.take_nil]
theorem cut_to (ds : List D) (m : Nat) : cutD ds none (some (m : Int)) = ds.take m := by
  unfold cutD
  rw [HT.sIx_nat, HT.sIx_none]
  rw [List.drop_zero, Nat.sub_zero]
  by_cases h : m ≤ ds.length
  · rw [Nat.min_eq_left h]
  · rw [Nat.min_eq_right (by omega), List.take_of_length_le (Nat.le_refl _), List.take_of_length_le (by omega)]
/-- [elt for x in iter], over things xs that give ds -/
theorem lc1 {α : Type} (j : Nat) (xs : List α) (enc : α → D) (f : α → D) {x : Str} {p : Pos} {k : List D → Prop} (hc : X.calm = true) (nd : X.N.Nodup) (it : DI X (.Name x p) iter false [j] δ fun us => us = ones (xs.map enc) ∧ xs.length < 100000 ∧ (∀ y ∈ xs, BE X scope elt (δ.set j (some (.sh (enc y)))) fun z => z = f y) ∧ k (xs.map f))
    (ok : BlkOk X.N X.env.scope scope [(x, j)] := by exact blkOk_by (by kernel_rfl)) (hi : X.N[j]? = some x := by rfl) (hl : LocB X scope x := by first | exact .inl fun _ _ => rfl | exact .inr ⟨fun _ _ => rfl, rfl⟩) (hs : ∀ x, foldedSetIterable iter X.env x = pure x := by intro _; rfl) : DL X (.ListComp elt [⟨.Name x p, iter, [], 0⟩] scope pos) δ k := by
  refine dl_lc hc nd ok rfl (by simp) (tg1 j nd hi hl) (it.imp fun us hk => ?_) hs
  obtain ⟨rfl, h1, h2, h3⟩ := hk
  exact turns_map xs (fun y => [enc y]) f (by simp [ones, List.map_map]) h1 h2 h3
/-- [elt for x in iter if cnd] -/
theorem lcf {α : Type} (j : Nat) (xs : List α) (enc : α → D) (pr : α → Bool) (f : α → D) {x : Str} {p : Pos} {cnd : Expr} {k : List D → Prop} (hc : X.calm = true) (nd : X.N.Nodup) (it : DI X (.Name x p) iter false [j] δ fun us => us = ones (xs.map enc) ∧ xs.length < 100000 ∧ (∀ y ∈ xs, BT X scope [cnd] (δ.set j (some (.sh (enc y)))) fun t => t = pr y) ∧ (∀ y ∈ xs, pr y = true → BE X scope elt (δ.set j (some (.sh (enc y)))) fun z => z = f y) ∧ k ((xs.filter pr).map f))
    (ok : BlkOk X.N X.env.scope scope [(x, j)] := by exact blkOk_by (by kernel_rfl)) (hi : X.N[j]? = some x := by rfl) (hl : LocB X scope x := by first | exact .inl fun _ _ => rfl | exact .inr ⟨fun _ _ => rfl, rfl⟩) (hs : ∀ x, foldedSetIterable iter X.env x = pure x := by intro _; rfl) : DL X (.ListComp elt [⟨.Name x p, iter, [cnd], 0⟩] scope pos) δ k := by
  refine dl_lc hc nd ok rfl (by simp) (tg1 j nd hi hl) (it.imp fun us hk => ?_) hs
  obtain ⟨rfl, h1, h2, h3, h4⟩ := hk
  exact turns_filter xs (fun y => [enc y]) pr f (by simp [ones, List.map_map]) h1 h2 h3 h4
/-- [elt for x, y in iter] -/
theorem lc2 {α : Type} (j1 j2 : Nat) (xs : List α) (e1 e2 : α → D) (f : α → D) {x y : Str} {p1 p2 p : Pos} {kk : Nat} {k : List D → Prop} (hc : X.calm = true) (nd : X.N.Nodup) (it : DI X (.Tuple [.Name x p1, .Name y p2] kk p) iter true [j1, j2] δ fun us => us = xs.map (fun a => [e1 a, e2 a]) ∧ xs.length < 100000 ∧ (∀ y ∈ xs, BE X scope elt ((δ.set j1 (some (.sh (e1 y)))).set j2 (some (.sh (e2 y)))) fun z => z = f y) ∧ k (xs.map f))
    (hj : [j1, j2].Nodup := by decide) (ok : BlkOk X.N X.env.scope scope [(x, j1), (y, j2)] := by exact blkOk_by (by kernel_rfl)) (hi : X.N[j1]? = some x := by rfl) (hi2 : X.N[j2]? = some y := by rfl) (hl : LocB X scope x := by first | exact .inl fun _ _ => rfl | exact .inr ⟨fun _ _ => rfl, rfl⟩) (hl2 : LocB X scope y := by first | exact .inl fun _ _ => rfl | exact .inr ⟨fun _ _ => rfl, rfl⟩) (hs : ∀ x, foldedSetIterable iter X.env x = pure x := by intro _; rfl) : DL X (.ListComp elt [⟨.Tuple [.Name x p1, .Name y p2] kk p, iter, [], 0⟩] scope pos) δ k := by
  refine dl_lc hc nd ok rfl hj (tg2 j1 j2 hc nd hi hi2 hl hl2) (it.imp fun us hk => ?_) hs
  obtain ⟨rfl, h1, h2, h3⟩ := hk
  exact turns_map xs (fun y => [e1 y, e2 y]) f rfl h1 h2 h3
/-- [elt for x, y in iter if cnd] -/
theorem lc2f {α : Type} (j1 j2 : Nat) (xs : List α) (e1 e2 : α → D) (pr : α → Bool) (f : α → D) {x y : Str} {p1 p2 p : Pos} {kk : Nat} {cnd : Expr} {k : List D → Prop} (hc : X.calm = true) (nd : X.N.Nodup) (it : DI X (.Tuple [.Name x p1, .Name y p2] kk p) iter true [j1, j2] δ fun us => us = xs.map (fun a => [e1 a, e2 a]) ∧ xs.length < 100000 ∧ (∀ y ∈ xs, BT X scope [cnd] ((δ.set j1 (some (.sh (e1 y)))).set j2 (some (.sh (e2 y)))) fun t => t = pr y) ∧ (∀ y ∈ xs, pr y = true → BE X scope elt ((δ.set j1 (some (.sh (e1 y)))).set j2 (some (.sh (e2 y)))) fun z => z = f y) ∧ k ((xs.filter pr).map f))
    (hj : [j1, j2].Nodup := by decide) (ok : BlkOk X.N X.env.scope scope [(x, j1), (y, j2)] := by exact blkOk_by (by kernel_rfl)) (hi : X.N[j1]? = some x := by rfl) (hi2 : X.N[j2]? = some y := by rfl) (hl : LocB X scope x := by first | exact .inl fun _ _ => rfl | exact .inr ⟨fun _ _ => rfl, rfl⟩) (hl2 : LocB X scope y := by first | exact .inl fun _ _ => rfl | exact .inr ⟨fun _ _ => rfl, rfl⟩) (hs : ∀ x, foldedSetIterable iter X.env x = pure x := by intro _; rfl) : DL X (.ListComp elt [⟨.Tuple [.Name x p1, .Name y p2] kk p, iter, [cnd], 0⟩] scope pos) δ k := by
  refine dl_lc hc nd ok rfl hj (tg2 j1 j2 hc nd hi hi2 hl hl2) (it.imp fun us hk => ?_) hs
  obtain ⟨rfl, h1, h2, h3, h4⟩ := hk
  exact turns_filter xs (fun y => [e1 y, e2 y]) pr f rfl h1 h2 h3 h4
theorem slc1 {α : Type} (i0 : Nat) (j : Nat) (xs : List α) (enc : α → D) (f : α → D) {x : Str} {p : Pos} {E : DEnd} {y0 : Str} {py0 spos : Pos} (hc : X.calm = true) (nd : X.N.Nodup) (it : DI X (.Name x p) iter false [j] δ fun us => us = ones (xs.map enc) ∧ xs.length < 100000 ∧ (∀ y ∈ xs, BE X scope elt (δ.set j (some (.sh (enc y)))) fun z => z = f y) ∧ (E.nx (δ.set i0 (some (.sh (.list (xs.map f))))) ∨ E.nx (δ.set i0 (some (.own (xs.map f))))))
    (ok : BlkOk X.N X.env.scope scope [(x, j)] := by exact blkOk_by (by kernel_rfl)) (hi : X.N[j]? = some x := by rfl) (hl : LocB X scope x := by first | exact .inl fun _ _ => rfl | exact .inr ⟨fun _ _ => rfl, rfl⟩) (hs : ∀ x, foldedSetIterable iter X.env x = pure x := by intro _; rfl) (sw : swapsWith (.ListComp elt [⟨.Name x p, iter, [], 0⟩] scope pos) (some (.Name y0 py0)) spos.line X.env = pure true := by rfl) (hy0 : X.N[i0]? = some y0 := by rfl) (hyl0 : X.env.scope.names.lookup y0 = some .local := by rfl) : DSt X (.Assign [.Name y0 py0] (.ListComp elt [⟨.Name x p, iter, [], 0⟩] scope pos) spos) δ E := by
  refine ds_setLc i0 hc nd ok rfl (by simp) (tg1 j nd hi hl) sw (it.imp fun us hk => ?_) hy0 hyl0 hs
  obtain ⟨rfl, h1, h2, h3⟩ := hk
  exact turns_map xs (fun y => [enc y]) f (by simp [ones, List.map_map]) h1 h2 h3
theorem slcf {α : Type} (i0 : Nat) (j : Nat) (xs : List α) (enc : α → D) (pr : α → Bool) (f : α → D) {x : Str} {p : Pos} {cnd : Expr} {E : DEnd} {y0 : Str} {py0 spos : Pos} (hc : X.calm = true) (nd : X.N.Nodup) (it : DI X (.Name x p) iter false [j] δ fun us => us = ones (xs.map enc) ∧ xs.length < 100000 ∧ (∀ y ∈ xs, BT X scope [cnd] (δ.set j (some (.sh (enc y)))) fun t => t = pr y) ∧ (∀ y ∈ xs, pr y = true → BE X scope elt (δ.set j (some (.sh (enc y)))) fun z => z = f y) ∧ (E.nx (δ.set i0 (some (.sh (.list ((xs.filter pr).map f))))) ∨ E.nx (δ.set i0 (some (.own ((xs.filter pr).map f))))))
    (ok : BlkOk X.N X.env.scope scope [(x, j)] := by exact blkOk_by (by kernel_rfl)) (hi : X.N[j]? = some x := by rfl) (hl : LocB X scope x := by first | exact .inl fun _ _ => rfl | exact .inr ⟨fun _ _ => rfl, rfl⟩) (hs : ∀ x, foldedSetIterable iter X.env x = pure x := by intro _; rfl) (sw : swapsWith (.ListComp elt [⟨.Name x p, iter, [cnd], 0⟩] scope pos) (some (.Name y0 py0)) spos.line X.env = pure true := by rfl) (hy0 : X.N[i0]? = some y0 := by rfl) (hyl0 : X.env.scope.names.lookup y0 = some .local := by rfl) : DSt X (.Assign [.Name y0 py0] (.ListComp elt [⟨.Name x p, iter, [cnd], 0⟩] scope pos) spos) δ E := by
  refine ds_setLc i0 hc nd ok rfl (by simp) (tg1 j nd hi hl) sw (it.imp fun us hk => ?_) hy0 hyl0 hs
  obtain ⟨rfl, h1, h2, h3, h4⟩ := hk
  exact turns_filter xs (fun y => [enc y]) pr f (by simp [ones, List.map_map]) h1 h2 h3 h4
theorem slc2 {α : Type} (i0 : Nat) (j1 j2 : Nat) (xs : List α) (e1 e2 : α → D) (f : α → D) {x y : Str} {p1 p2 p : Pos} {kk : Nat} {E : DEnd} {y0 : Str} {py0 spos : Pos} (hc : X.calm = true) (nd : X.N.Nodup) (it : DI X (.Tuple [.Name x p1, .Name y p2] kk p) iter true [j1, j2] δ fun us => us = xs.map (fun a => [e1 a, e2 a]) ∧ xs.length < 100000 ∧ (∀ y ∈ xs, BE X scope elt ((δ.set j1 (some (.sh (e1 y)))).set j2 (some (.sh (e2 y)))) fun z => z = f y) ∧ (E.nx (δ.set i0 (some (.sh (.list (xs.map f))))) ∨ E.nx (δ.set i0 (some (.own (xs.map f))))))
    (hj : [j1, j2].Nodup := by decide) (ok : BlkOk X.N X.env.scope scope [(x, j1), (y, j2)] := by exact blkOk_by (by kernel_rfl)) (hi : X.N[j1]? = some x := by rfl) (hi2 : X.N[j2]? = some y := by rfl) (hl : LocB X scope x := by first | exact .inl fun _ _ => rfl | exact .inr ⟨fun _ _ => rfl, rfl⟩) (hl2 : LocB X scope y := by first | exact .inl fun _ _ => rfl | exact .inr ⟨fun _ _ => rfl, rfl⟩) (hs : ∀ x, foldedSetIterable iter X.env x = pure x := by intro _; rfl) (sw : swapsWith (.ListComp elt [⟨.Tuple [.Name x p1, .Name y p2] kk p, iter, [], 0⟩] scope pos) (some (.Name y0 py0)) spos.line X.env = pure true := by rfl) (hy0 : X.N[i0]? = some y0 := by rfl) (hyl0 : X.env.scope.names.lookup y0 = some .local := by rfl) : DSt X (.Assign [.Name y0 py0] (.ListComp elt [⟨.Tuple [.Name x p1, .Name y p2] kk p, iter, [], 0⟩] scope pos) spos) δ E := by
  refine ds_setLc i0 hc nd ok rfl hj (tg2 j1 j2 hc nd hi hi2 hl hl2) sw (it.imp fun us hk => ?_) hy0 hyl0 hs
  obtain ⟨rfl, h1, h2, h3⟩ := hk
  exact turns_map xs (fun y => [e1 y, e2 y]) f rfl h1 h2 h3
theorem slc2f {α : Type} (i0 : Nat) (j1 j2 : Nat) (xs : List α) (e1 e2 : α → D) (pr : α → Bool) (f : α → D) {x y : Str} {p1 p2 p : Pos} {kk : Nat} {cnd : Expr} {E : DEnd} {y0 : Str} {py0 spos : Pos} (hc : X.calm = true) (nd : X.N.Nodup) (it : DI X (.Tuple [.Name x p1, .Name y p2] kk p) iter true [j1, j2] δ fun us => us = xs.map (fun a => [e1 a, e2 a]) ∧ xs.length < 100000 ∧ (∀ y ∈ xs, BT X scope [cnd] ((δ.set j1 (some (.sh (e1 y)))).set j2 (some (.sh (e2 y)))) fun t => t = pr y) ∧ (∀ y ∈ xs, pr y = true → BE X scope elt ((δ.set j1 (some (.sh (e1 y)))).set j2 (some (.sh (e2 y)))) fun z => z = f y) ∧ (E.nx (δ.set i0 (some (.sh (.list ((xs.filter pr).map f))))) ∨ E.nx (δ.set i0 (some (.own ((xs.filter pr).map f))))))
    (hj : [j1, j2].Nodup := by decide) (ok : BlkOk X.N X.env.scope scope [(x, j1), (y, j2)] := by exact blkOk_by (by kernel_rfl)) (hi : X.N[j1]? = some x := by rfl) (hi2 : X.N[j2]? = some y := by rfl) (hl : LocB X scope x := by first | exact .inl fun _ _ => rfl | exact .inr ⟨fun _ _ => rfl, rfl⟩) (hl2 : LocB X scope y := by first | exact .inl fun _ _ => rfl | exact .inr ⟨fun _ _ => rfl, rfl⟩) (hs : ∀ x, foldedSetIterable iter X.env x = pure x := by intro _; rfl) (sw : swapsWith (.ListComp elt [⟨.Tuple [.Name x p1, .Name y p2] kk p, iter, [cnd], 0⟩] scope pos) (some (.Name y0 py0)) spos.line X.env = pure true := by rfl) (hy0 : X.N[i0]? = some y0 := by rfl) (hyl0 : X.env.scope.names.lookup y0 = some .local := by rfl) : DSt X (.Assign [.Name y0 py0] (.ListComp elt [⟨.Tuple [.Name x p1, .Name y p2] kk p, iter, [cnd], 0⟩] scope pos) spos) δ E := by
  refine ds_setLc i0 hc nd ok rfl hj (tg2 j1 j2 hc nd hi hi2 hl hl2) sw (it.imp fun us hk => ?_) hy0 hyl0 hs
  obtain ⟨rfl, h1, h2, h3, h4⟩ := hk
  exact turns_filter xs (fun y => [e1 y, e2 y]) pr f rfl h1 h2 h3 h4
/-- for x in iter -/
theorem for1 {α : Type} (j : Nat) (xs : List α) (enc : α → D) (I : Nat → DS → Prop) {x : Str} {p : Pos} {body : List Stmt} {E : DEnd} (hp : PassesOwn (model X.prog X.w) X.A X.env X.xe) (hc : X.calm = true) (nd : X.N.Nodup)
    (it : DIs X (.Name x p) iter false [j] δ fun us => us = ones (xs.map enc) ∧ I 0 δ ∧ (∀ (i : Nat) (y : α) (δ' : DS), xs[i]? = some y → I i δ' → DSs X body (δ'.set j (some (.sh (enc y)))) { nx := I (i + 1), rt := E.rt, bk := E.nx, ct := I (i + 1) }) ∧ ∀ δ', I xs.length δ' → E.nx δ')
    (hi : X.N[j]? = some x := by rfl) (hl : Loc X.env.scope x := by first | exact .inl rfl | exact .inr rfl) (hf : X.fn x = true ∨ X.env.scope.names.lookup x = some .local := by first | exact .inl rfl | exact .inr rfl) (hs : ∀ x, foldedSetIterable iter X.env x = pure x := by intro _; rfl) : DSt X (.For (.Name x p) iter body [] pos) δ E := by
  refine ds_for (js := [j]) hp hc (fg1 j nd hi hl hf) (it.imp fun us hk => ?_) (hs := hs)
  obtain ⟨rfl, h0, h1, h2⟩ := hk
  refine ⟨I, h0, fun i ds δ' e hI => ?_, fun δ' hI => h2 δ' (by simpa [ones] using hI)⟩
  obtain ⟨d, hd, rfl⟩ := ones_get e
  rw [List.getElem?_map] at hd
  cases h : xs[i]? with
  | none => rw [h] at hd; cases hd
  | some y => rw [h] at hd; cases hd; exact h1 i y δ' h hI
theorem for2 {α : Type} (j1 j2 : Nat) (xs : List α) (e1 e2 : α → D) (I : Nat → DS → Prop) {x y : Str} {p1 p2 p : Pos} {kk : Nat} {body : List Stmt} {E : DEnd} (hp : PassesOwn (model X.prog X.w) X.A X.env X.xe) (hc : X.calm = true) (nd : X.N.Nodup)
    (it : DIs X (.Tuple [.Name x p1, .Name y p2] kk p) iter true [j1, j2] δ fun us => us = xs.map (fun a => [e1 a, e2 a]) ∧ I 0 δ ∧ (∀ (i : Nat) (y : α) (δ' : DS), xs[i]? = some y → I i δ' → DSs X body ((δ'.set j1 (some (.sh (e1 y)))).set j2 (some (.sh (e2 y)))) { nx := I (i + 1), rt := E.rt, bk := E.nx, ct := I (i + 1) }) ∧ ∀ δ', I xs.length δ' → E.nx δ')
    (hi : X.N[j1]? = some x := by rfl) (hi2 : X.N[j2]? = some y := by rfl) (hl : Loc X.env.scope x := by first | exact .inl rfl | exact .inr rfl) (hl2 : Loc X.env.scope y := by first | exact .inl rfl | exact .inr rfl) (hf : X.fn x = true ∨ X.env.scope.names.lookup x = some .local := by first | exact .inl rfl | exact .inr rfl) (hf2 : X.fn y = true ∨ X.env.scope.names.lookup y = some .local := by first | exact .inl rfl | exact .inr rfl) (hs : ∀ x, foldedSetIterable iter X.env x = pure x := by intro _; rfl) : DSt X (.For (.Tuple [.Name x p1, .Name y p2] kk p) iter body [] pos) δ E := by
  refine ds_for (js := [j1, j2]) hp hc (fg2 j1 j2 hc nd hi hi2 hl hl2 hf hf2) (it.imp fun us hk => ?_) (hs := hs)
  obtain ⟨rfl, h0, h1, h2⟩ := hk
  refine ⟨I, h0, fun i ds δ' e hI => ?_, fun δ' hI => h2 δ' (by simpa using hI)⟩
  rw [List.getElem?_map] at e
  cases h : xs[i]? with
  | none => rw [h] at e; cases e
  | some y => rw [h] at e; cases e; exact h1 i y δ' h hI
end
end Dt

/-! Mir: what the package's functions compute, in plain Lean; the data's forms; the promises' forms. -/
namespace Dt
open PySem PySem.Spec L2
abbrev tI (l : List Int) : D := .tuple (l.map .int)
abbrev nI (l : List Nat) : List Int := l.map fun (n : Nat) => (n : Int)
abbrev tN (l : List Nat) : D := tI (nI l)
abbrev tR (rows : List (List Int)) : D := .tuple (rows.map tI)
abbrev lR (rows : List (List Int)) : D := .list (rows.map tI)
def PrmI (p : Int) : Prop := p = 2 ∨ p = 3 ∨ p = 5 ∨ p = 7 ∨ p = 11 ∨ p = 13
def RowOk (p : Int) (n : Nat) (r : List Int) : Prop := r.length = n ∧ ∀ x ∈ r, 0 ≤ x ∧ x < p
def SumOk (p : Int) (n : Nat) (r : List Int) : Prop := RowOk p n r ∧ ∃ x ∈ r, x ≠ 0
structure BookOk (p : Int) (n : Nat) (rows : List (List Int)) : Prop where
  prm : PrmI p
  n1 : 1 ≤ n
  n2 : n ≤ 12
  few : rows.length ≤ 8
  sum : ∀ r ∈ rows, SumOk p n r
abbrev bkD (p : Int) (n : Nat) (rows : List (List Int)) : D := .tuple [.int p, .int n, tR rows]
def LotOk (n : Nat) (l : List Nat) : Prop := l.Pairwise (· < ·) ∧ ∀ x ∈ l, x < n
theorem PrmI.two {p : Int} (h : PrmI p) : 2 ≤ p ∧ p ≤ 13 := by unfold PrmI at h; omega
theorem asc_nodup {l : List Nat} (h : l.Pairwise (· < ·)) : l.Nodup := h.imp fun h => by omega
theorem asc_len {n : Nat} : ∀ (l : List Nat) (a : Nat), l.Pairwise (· < ·) → (∀ x ∈ l, a ≤ x ∧ x < n) → l.length ≤ n - a
  | [], _, _, _ => by simp
  | x :: xs, a, hp, h => by
    have hx := h x List.mem_cons_self
    have hp' := List.pairwise_cons.mp hp
    have ih := asc_len xs (x + 1) hp'.2 fun y hy => ⟨hp'.1 y hy, (h y (List.mem_cons_of_mem _ hy)).2⟩
    rw [List.length_cons]; omega
theorem lot_len {n : Nat} {l : List Nat} (h : LotOk n l) : l.length ≤ n := by
  have := asc_len l 0 h.1 fun x hx => ⟨Nat.zero_le _, h.2 x hx⟩
  omega
/-- the entry at a place -/
def gt (r : List Int) (i : Nat) : Int := r.getD i 0
theorem gt_get {r : List Int} {i : Nat} (h : i < r.length) : r[i]? = some (gt r i) := by
  unfold gt; rw [List.getD_eq_getElem?_getD, List.getElem?_eq_getElem h]; rfl
theorem gt_mem {r : List Int} {i : Nat} (h : i < r.length) : gt r i ∈ r := by
  have := gt_get h; exact List.mem_of_getElem? this
theorem at_row {r : List Int} {i : Nat} (h : i < r.length) : atI (r.map PyData.int) (i : Int) = some (.int (gt r i)) := atI_ix rfl (by rw [List.getElem?_map, gt_get h]; rfl)
theorem RowOk.at {p : Int} {n : Nat} {r : List Int} (h : RowOk p n r) {i : Nat} (hi : i < n) : 0 ≤ gt r i ∧ gt r i < p := h.2 _ (gt_mem (by rw [h.1]; exact hi))
theorem RowOk.at_ {p : Int} {n : Nat} {r : List Int} (h : RowOk p n r) {i : Nat} (hi : i < n) : atI (r.map PyData.int) (i : Int) = some (.int (gt r i)) := at_row (by rw [h.1]; exact hi)
def lessR (p : Int) (first : List Int) (spot : Nat) (row : List Int) : List Int := (row.zip first).map fun q => (q.1 - gt row spot * q.2) % p
def ledR (p : Int) (spot : Nat) (row : List Int) : List Int := row.map fun x => x * (gt row spot ^ (p - 2).toNat % p) % p
def redStep (p : Int) (st : List (List Int) × List (List Int)) (spot : Nat) : List (List Int) × List (List Int) :=
  match st.1.filter (fun r => decide (0 < gt r spot)) with
  | [] => st
  | f :: _ => (st.1.map (lessR p (ledR p spot f) spot), st.2.map (lessR p (ledR p spot f) spot) ++ [ledR p spot f])
def redBy (p : Int) (rows : List (List Int)) (n : Nat) : List (List Int) × List (List Int) := (List.range n).foldl (redStep p) (rows, [])
def reducedBy (p : Int) (rows : List (List Int)) (n : Nat) : List (List Int) := (redBy p rows n).2
def leadOf (r : List Int) : Nat := ((List.range r.length).filter fun i => decide (0 < gt r i)).headD 0
def keptRow (p : Int) (red : List (List Int)) (leads : List Nat) (n free : Nat) : List Int :=
  (leads.zip red).foldl (fun f q => f.set q.1 (-(gt q.2 free) % p)) ((List.range n).map fun s => if s = free then 1 else 0)
def freesOf (n : Nat) (leads : List Nat) : List Nat := (List.range n).filter fun s => decide (s ∉ leads)
def nullBy (p : Int) (rows : List (List Int)) (n : Nat) : List (List Int) :=
  reducedBy p ((freesOf n ((reducedBy p rows n).map leadOf)).map (keptRow p (reducedBy p rows n) ((reducedBy p rows n).map leadOf) n)) n
def cutRows (rows : List (List Int)) (places : List Nat) : List (List Int) := rows.map fun r => places.map (gt r)
theorem lessR_ok {p : Int} {n : Nat} {first : List Int} {spot : Nat} {row : List Int} (hp : PrmI p) (h1 : RowOk p n first) (h : RowOk p n row) : RowOk p n (lessR p first spot row) := by
  have := hp.two
  refine ⟨by unfold lessR; rw [List.length_map, List.length_zip, h.1, h1.1, Nat.min_self], fun x hx => ?_⟩
  unfold lessR at hx
  obtain ⟨q, _, rfl⟩ := List.mem_map.mp hx
  exact ⟨Int.emod_nonneg _ (by omega), Int.emod_lt_of_pos _ (by omega)⟩
theorem ledR_ok {p : Int} {n : Nat} {spot : Nat} {row : List Int} (hp : PrmI p) (h : RowOk p n row) : RowOk p n (ledR p spot row) := by
  have := hp.two
  refine ⟨by unfold ledR; rw [List.length_map, h.1], fun x hx => ?_⟩
  unfold ledR at hx
  obtain ⟨q, _, rfl⟩ := List.mem_map.mp hx
  exact ⟨Int.emod_nonneg _ (by omega), Int.emod_lt_of_pos _ (by omega)⟩
/-- all the rows of a state are rows -/
structure StOk (p : Int) (n m i : Nat) (st : List (List Int) × List (List Int)) : Prop where
  l : st.1.length = m
  f : st.2.length ≤ i
  r1 : ∀ r ∈ st.1, RowOk p n r
  r2 : ∀ r ∈ st.2, RowOk p n r
theorem redStep_ok {p : Int} {n m i spot : Nat} {st : List (List Int) × List (List Int)} (hp : PrmI p) (h : StOk p n m i st) : StOk p n m (i + 1) (redStep p st spot) := by
  unfold redStep
  cases e : st.1.filter (fun r => decide (0 < gt r spot)) with
  | nil => exact ⟨h.l, Nat.le_succ_of_le h.f, h.r1, h.r2⟩
  | cons f fs =>
    have hf : f ∈ st.1 := (List.mem_filter.mp (e ▸ List.mem_cons_self)).1
    have hF := ledR_ok (spot := spot) hp (h.r1 f hf)
    refine ⟨by simp [h.l], by simp; exact h.f, fun r hr => ?_, fun r hr => ?_⟩
    · obtain ⟨x, hx, rfl⟩ := List.mem_map.mp hr
      exact lessR_ok hp hF (h.r1 x hx)
    · rcases List.mem_append.mp hr with hr | hr
      · obtain ⟨x, hx, rfl⟩ := List.mem_map.mp hr
        exact lessR_ok hp hF (h.r2 x hx)
      · rw [List.mem_singleton.mp hr]; exact hF
theorem redBy_succ (p : Int) (rows : List (List Int)) (n : Nat) : redBy p rows (n + 1) = redStep p (redBy p rows n) n := by
  unfold redBy; rw [List.range_succ, List.foldl_append]; rfl
theorem redBy_ok {p : Int} {n : Nat} {rows : List (List Int)} (hp : PrmI p) (h : ∀ r ∈ rows, RowOk p n r) : ∀ i, StOk p n rows.length i (redBy p rows i)
  | 0 => ⟨rfl, Nat.le_refl _, h, fun r hr => by cases hr⟩
  | i + 1 => by rw [redBy_succ]; exact redStep_ok hp (redBy_ok hp h i)
theorem reducedBy_ok {p : Int} {n : Nat} {rows : List (List Int)} (hp : PrmI p) (h : ∀ r ∈ rows, RowOk p n r) (m : Nat) : (reducedBy p rows m).length ≤ m ∧ ∀ r ∈ reducedBy p rows m, RowOk p n r := ⟨(redBy_ok hp h m).f, (redBy_ok hp h m).r2⟩
end Dt

/-! Lin: rows over Z_p and what is orthogonal to them, in plain Lean. -/
namespace Dt
theorem fermat {p a : Int} (hp : PrmI p) (h0 : 0 < a) (h1 : a < p) : a * (a ^ (p - 2).toNat % p) % p = 1 := by
  have key : ∀ q ∈ [2, 3, 5, 7, 11, 13], ∀ b ∈ List.range q, 0 < b → ((b : Int) * ((b : Int) ^ (((q : Nat) : Int) - 2).toNat % (q : Int)) % (q : Int) = 1) := by decide +kernel
  have hq : p.toNat ∈ [2, 3, 5, 7, 11, 13] := by unfold PrmI at hp; rcases hp with rfl | rfl | rfl | rfl | rfl | rfl <;> decide
  have ep : ((p.toNat : Nat) : Int) = p := Int.toNat_of_nonneg (by omega)
  have ea : ((a.toNat : Nat) : Int) = a := Int.toNat_of_nonneg (by omega)
  have := key p.toNat hq a.toNat (List.mem_range.mpr (by omega)) (by omega)
  rw [ep, ea] at this
  exact this
/-- what is no multiple of p has an inverse -/
theorem unit_of {p a : Int} (hp : PrmI p) (h : ¬ p ∣ a) : ∃ b, p ∣ a * b - 1 := by
  have h2 := hp.two
  have h0 : 0 ≤ a % p := Int.emod_nonneg _ (by omega)
  have h1 : a % p < p := Int.emod_lt_of_pos _ (by omega)
  have hn : a % p ≠ 0 := fun z => h (Int.dvd_of_emod_eq_zero z)
  have hf := fermat hp (a := a % p) (by omega) h1
  refine ⟨(a % p) ^ (p - 2).toNat % p, ?_⟩
  refine Int.dvd_of_emod_eq_zero ?_
  have e : a * ((a % p) ^ (p - 2).toNat % p) % p = 1 := by
    rw [Int.mul_emod, Int.emod_emod, ← hf, Int.mul_emod (a % p), Int.emod_emod, Int.emod_emod]
  rw [Int.sub_emod, e]
  simp
theorem prm_mul {p a b : Int} (hp : PrmI p) (h : p ∣ a * b) : p ∣ a ∨ p ∣ b := by
  by_cases ha : p ∣ a
  · exact .inl ha
  · obtain ⟨c, hc⟩ := unit_of hp ha
    refine .inr ?_
    have e : b = c * (a * b) - b * (a * c - 1) := by grind
    rw [e]
    exact Int.dvd_sub (Int.dvd_mul_of_dvd_right h) (Int.dvd_mul_of_dvd_right hc)
theorem small_zero {p a : Int} (h : p ∣ a) (h0 : 0 ≤ a) (h1 : a < p) : a = 0 := by
  have := Int.emod_eq_zero_of_dvd h
  rwa [Int.emod_eq_of_lt h0 h1] at this
theorem dvd_emod_sub (p a : Int) : p ∣ a % p - a := by
  refine Int.dvd_of_emod_eq_zero ?_
  rw [Int.sub_emod, Int.emod_emod, Int.sub_self]; rfl
/-! ### sums of products -/
def dot (f g : Nat → Int) : Nat → Int
  | 0 => 0
  | n + 1 => dot f g n + f n * g n
theorem dot_comm (f g : Nat → Int) : ∀ n, dot f g n = dot g f n
  | 0 => rfl
  | n + 1 => by show dot f g n + _ = dot g f n + _; rw [dot_comm f g n, Int.mul_comm]
theorem dot_congr {f f' g g' : Nat → Int} : ∀ n, (∀ i < n, f i = f' i ∧ g i = g' i) → dot f g n = dot f' g' n
  | 0, _ => rfl
  | n + 1, h => by
    show dot f g n + _ = dot f' g' n + _
    rw [dot_congr n fun i hi => h i (by omega), (h n (by omega)).1, (h n (by omega)).2]
theorem dot_zero {f g : Nat → Int} : ∀ n, (∀ i < n, f i = 0) → dot f g n = 0
  | 0, _ => rfl
  | n + 1, h => by show dot f g n + _ = 0; rw [dot_zero n fun i hi => h i (by omega), h n (by omega)]; simp
/-- modulo p each term may be replaced -/
theorem dot_mod {p : Int} {f f' g : Nat → Int} : ∀ n, (∀ i < n, p ∣ f i - f' i) → p ∣ dot f g n - dot f' g n
  | 0, _ => by show p ∣ (0 : Int) - 0; simp
  | n + 1, h => by
    show p ∣ (dot f g n + f n * g n) - (dot f' g n + f' n * g n)
    have e : (dot f g n + f n * g n) - (dot f' g n + f' n * g n) = (dot f g n - dot f' g n) + (f n - f' n) * g n := by grind
    rw [e]
    exact Int.dvd_add (dot_mod n fun i hi => h i (by omega)) (Int.dvd_mul_of_dvd_left (h n (by omega)))
theorem dot_lin {a b : Int} {f1 f2 g : Nat → Int} : ∀ n, dot (fun i => a * f1 i + b * f2 i) g n = a * dot f1 g n + b * dot f2 g n
  | 0 => by show (0 : Int) = a * 0 + b * 0; simp
  | n + 1 => by
    show dot _ g n + _ = a * (dot f1 g n + _) + b * (dot f2 g n + _)
    rw [dot_lin n]; grind
/-- one term -/
theorem dot_one {f g : Nat → Int} {i : Nat} : ∀ n, i < n → (∀ j < n, j ≠ i → f j * g j = 0) → dot f g n = f i * g i
  | 0, h, _ => by omega
  | n + 1, h, hz => by
    show dot f g n + f n * g n = _
    by_cases e : i = n
    · subst e
      have : dot f g i = 0 := by
        have aux : ∀ m, m ≤ i → dot f g m = 0 := fun m => by
          induction m with
          | zero => intro _; rfl
          | succ m ih => intro hm; show dot f g m + _ = 0; rw [ih (by omega), hz m (by omega) (by omega)]; rfl
        exact aux i (Nat.le_refl _)
      rw [this]; simp
    · rw [dot_one n (by omega) fun j hj hji => hz j (by omega) hji, hz n (by omega) (fun z => e z.symm)]; simp
theorem dot_dvd {p : Int} {f g : Nat → Int} : ∀ n, (∀ i < n, p ∣ f i * g i) → p ∣ dot f g n
  | 0, _ => by show p ∣ (0 : Int); simp
  | n + 1, h => Int.dvd_add (dot_dvd n fun i hi => h i (by omega)) (h n (by omega))
/-- modulo p one term -/
theorem dot_one_mod {p : Int} {f g : Nat → Int} {i : Nat} {n : Nat} (hi : i < n) (h : ∀ j < n, j ≠ i → p ∣ f j * g j) : p ∣ dot f g n - f i * g i := by
  have e : ∀ m, p ∣ dot f g m - (if i < m then f i * g i else 0) ∨ ¬ m ≤ n := fun m => by
    induction m with
    | zero => left; rw [if_neg (by omega)]; show p ∣ (0 : Int) - 0; simp
    | succ m ih =>
      by_cases hm : m + 1 ≤ n
      · left
        rcases ih with ih | ih
        · show p ∣ (dot f g m + f m * g m) - _
          by_cases e : m = i
          · subst e
            rw [if_neg (by omega)] at ih
            rw [if_pos (by omega)]
            have e2 : dot f g m + f m * g m - f m * g m = dot f g m - 0 := by omega
            rw [e2]; exact ih
          · have hh := h m (by omega) e
            by_cases hl : i < m
            · rw [if_pos hl] at ih
              rw [if_pos (by omega)]
              have e2 : dot f g m + f m * g m - f i * g i = (dot f g m - f i * g i) + f m * g m := by omega
              rw [e2]; exact Int.dvd_add ih hh
            · rw [if_neg hl] at ih
              rw [if_neg (by omega)]
              have e2 : dot f g m + f m * g m - 0 = (dot f g m - 0) + f m * g m := by omega
              rw [e2]; exact Int.dvd_add ih hh
        · omega
      · exact .inr hm
  rcases e n with h' | h'
  · rw [if_pos hi] at h'; exact h'
  · exact absurd (Nat.le_refl n) h'
def Perp (p : Int) (n : Nat) (rows : List (List Int)) (w : Nat → Int) : Prop := ∀ r ∈ rows, p ∣ dot (gt r) w n
/-! ### a row less a multiple of another -/
theorem gt_map {f : Int → Int} {r : List Int} {i : Nat} (h : i < r.length) : gt (r.map f) i = f (gt r i) := by
  unfold gt
  rw [List.getD_eq_getElem?_getD, List.getElem?_map, List.getD_eq_getElem?_getD, List.getElem?_eq_getElem h]; rfl
theorem gt_less {p : Int} {n spot s : Nat} {first row : List Int} (h1 : row.length = n) (h2 : first.length = n) (hs : s < n) : gt (lessR p first spot row) s = (gt row s - gt row spot * gt first s) % p := by
  have e : (row.zip first)[s]? = some (gt row s, gt first s) := List.getElem?_zip_eq_some.mpr ⟨gt_get (by omega), gt_get (by omega)⟩
  unfold lessR
  show ((row.zip first).map _).getD s 0 = _
  rw [List.getD_eq_getElem?_getD, List.getElem?_map, e]
  rfl
theorem gt_led {p : Int} {n spot s : Nat} {row : List Int} (h1 : row.length = n) (hs : s < n) : gt (ledR p spot row) s = gt row s * (gt row spot ^ (p - 2).toNat % p) % p := by
  unfold ledR
  rw [gt_map (by omega)]
theorem dot_less {p : Int} {n spot : Nat} {first row : List Int} (h1 : row.length = n) (h2 : first.length = n) (w : Nat → Int) : p ∣ dot (gt (lessR p first spot row)) w n - (dot (gt row) w n - gt row spot * dot (gt first) w n) := by
  have e : dot (gt row) w n - gt row spot * dot (gt first) w n = dot (fun i => 1 * gt row i + (- gt row spot) * gt first i) w n := by rw [dot_lin]; grind
  rw [e]
  refine dot_mod n fun i hi => ?_
  rw [gt_less h1 h2 hi]
  have := dvd_emod_sub p (gt row i - gt row spot * gt first i)
  have e2 : 1 * gt row i + -gt row spot * gt first i = gt row i - gt row spot * gt first i := by grind
  rw [e2]; exact this
theorem dot_led {p : Int} {n spot : Nat} {row : List Int} (h1 : row.length = n) (w : Nat → Int) : p ∣ dot (gt (ledR p spot row)) w n - (gt row spot ^ (p - 2).toNat % p) * dot (gt row) w n := by
  have e : (gt row spot ^ (p - 2).toNat % p) * dot (gt row) w n = dot (fun i => (gt row spot ^ (p - 2).toNat % p) * gt row i + 0 * gt row i) w n := by rw [dot_lin]; grind
  rw [e]
  refine dot_mod n fun i hi => ?_
  rw [gt_led h1 hi]
  have := dvd_emod_sub p (gt row i * (gt row spot ^ (p - 2).toNat % p))
  have e2 : (gt row spot ^ (p - 2).toNat % p) * gt row i + 0 * gt row i = gt row i * (gt row spot ^ (p - 2).toNat % p) := by grind
  rw [e2]; exact this
theorem dvd_of_sub {p a b : Int} (h : p ∣ a - b) (hb : p ∣ b) : p ∣ a := by
  have e : a = (a - b) + b := by omega
  rw [e]; exact Int.dvd_add h hb
theorem dvd_of_sub' {p a b : Int} (h : p ∣ a - b) (ha : p ∣ a) : p ∣ b := by
  have e : b = a - (a - b) := by omega
  rw [e]; exact Int.dvd_sub ha h
end Dt

/-! Red: what the reduced rows are. -/
namespace Dt
/-! ### the lead -/
theorem lead_eq {r : List Int} {s : Nat} (hs : s < r.length) (h : 0 < gt r s) (hz : ∀ t < s, gt r t = 0) : leadOf r = s := by
  unfold leadOf
  have e : (List.range r.length).filter (fun i => decide (0 < gt r i)) = s :: ((List.range' (s + 1) (r.length - (s + 1))).filter fun i => decide (0 < gt r i)) := by
    have e1 : List.range r.length = List.range' 0 s ++ (s :: List.range' (s + 1) (r.length - (s + 1))) := by
      have e2 := List.range'_append (s := 0) (m := s) (n := r.length - s) (step := 1)
      have e3 : r.length - s = (r.length - (s + 1)) + 1 := by omega
      rw [Nat.zero_add, Nat.one_mul, show s + (r.length - s) = r.length by omega] at e2
      rw [List.range_eq_range', ← e2]
      conv => lhs; rw [e3, List.range'_succ]
    rw [e1, List.filter_append, List.filter_cons_of_pos (by simpa using h)]
    have e2 : (List.range' 0 s).filter (fun i => decide (0 < gt r i)) = [] := by
      rw [List.filter_eq_nil_iff]
      intro a ha
      have := List.mem_range'.mp ha
      have : a < s := by omega
      rw [hz a this]; simp
    rw [e2]; rfl
  rw [e]; rfl
theorem lead_zero {p : Int} {n : Nat} {r : List Int} (hr : RowOk p n r) {t : Nat} (h : t < leadOf r) (hl : leadOf r < n) : gt r t = 0 := by
  -- take the first positive place
  have : ∀ m, m ≤ n → (∀ t < m, gt r t = 0) ∨ ∃ s < m, 0 < gt r s ∧ ∀ t < s, gt r t = 0 := fun m => by
    induction m with
    | zero => intro _; exact .inl fun t ht => by omega
    | succ m ih =>
      intro hm
      rcases ih (by omega) with h0 | ⟨s, hs, h1, h2⟩
      · have hb := hr.at (show m < n by omega)
        by_cases e : gt r m = 0
        · refine .inl fun t ht => ?_
          by_cases e2 : t = m
          · rw [e2]; exact e
          · exact h0 t (by omega)
        · exact .inr ⟨m, by omega, by omega, h0⟩
      · exact .inr ⟨s, by omega, h1, h2⟩
  rcases this n (Nat.le_refl _) with h0 | ⟨s, hs, h1, h2⟩
  · exact h0 t (by omega)
  · have := lead_eq (by rw [hr.1]; exact hs) h1 h2
    exact h2 t (by omega)
/-- the rows' form: a lead each, ascending; the leads' columns are clean -/
structure Ech (p : Int) (n i : Nat) (rows : List (List Int)) : Prop where
  ok : ∀ r ∈ rows, RowOk p n r
  lead : ∀ r ∈ rows, leadOf r < i ∧ gt r (leadOf r) = 1
  pw : rows.Pairwise fun r r' => leadOf r < leadOf r' ∧ gt r (leadOf r') = 0
theorem gt_led_at {p : Int} {n s : Nat} {f : List Int} (hp : PrmI p) (hf : RowOk p n f) (hs : s < n) (h : 0 < gt f s) : gt (ledR p s f) s = 1 := by
  rw [gt_led hf.1 hs]
  exact fermat hp h (hf.at hs).2
theorem gt_led_zero {p : Int} {n s t : Nat} {f : List Int} (hf : RowOk p n f) (ht : t < n) (h : gt f t = 0) : gt (ledR p s f) t = 0 := by
  rw [gt_led hf.1 ht, h]; simp
theorem gt_less_keep {p : Int} {n s t : Nat} {first row : List Int} (h1 : RowOk p n row) (h2 : RowOk p n first) (ht : t < n) (h : gt first t = 0) : gt (lessR p first s row) t = gt row t := by
  rw [gt_less h1.1 h2.1 ht, h, Int.mul_zero, Int.sub_zero]
  exact Int.emod_eq_of_lt (h1.at ht).1 (h1.at ht).2
theorem gt_less_at {p : Int} {n s : Nat} {first row : List Int} (h1 : RowOk p n row) (h2 : RowOk p n first) (hs : s < n) (h : gt first s = 1) : gt (lessR p first s row) s = 0 := by
  rw [gt_less h1.1 h2.1 hs, h, Int.mul_one, Int.sub_self]; rfl
/-- the state after i spots -/
structure StE (p : Int) (n i : Nat) (st : List (List Int) × List (List Int)) : Prop where
  l : ∀ r ∈ st.1, RowOk p n r ∧ ∀ t < i, gt r t = 0
  f : Ech p n i st.2
theorem redStep_ech {p : Int} {n i : Nat} {st : List (List Int) × List (List Int)} (hp : PrmI p) (hi : i < n) (h : StE p n i st) : StE p n (i + 1) (redStep p st i) := by
  unfold redStep
  cases e : st.1.filter (fun r => decide (0 < gt r i)) with
  | nil =>
    refine ⟨fun r hr => ⟨(h.l r hr).1, fun t ht => ?_⟩, ⟨h.f.ok, fun r hr => ⟨by have := (h.f.lead r hr).1; omega, (h.f.lead r hr).2⟩, h.f.pw⟩⟩
    by_cases e2 : t = i
    · have h0 := List.filter_eq_nil_iff.mp e r hr
      have hb := (h.l r hr).1.at hi
      simp at h0
      subst e2; omega
    · exact (h.l r hr).2 t (by omega)
  | cons fr fs =>
    have hm : fr ∈ st.1.filter (fun r => decide (0 < gt r i)) := e ▸ List.mem_cons_self
    have hfr := List.mem_filter.mp hm
    obtain ⟨hok, hz⟩ := h.l fr hfr.1
    have hpos : 0 < gt fr i := by simpa using hfr.2
    have hF := ledR_ok (spot := i) hp hok
    have h1 := gt_led_at hp hok hi hpos
    have h0 : ∀ t < i, gt (ledR p i fr) t = 0 := fun t ht => gt_led_zero hok (by omega) (hz t ht)
    have hlead : leadOf (ledR p i fr) = i := lead_eq (by rw [hF.1]; exact hi) (by rw [h1]; decide) h0
    have hkeep : ∀ r ∈ st.2, leadOf (lessR p (ledR p i fr) i r) = leadOf r := fun r hr => by
      have ho := h.f.ok r hr
      have hl := h.f.lead r hr
      refine lead_eq (by rw [(lessR_ok hp hF ho).1]; omega) ?_ fun t ht => ?_
      · rw [gt_less_keep ho hF (by omega) (h0 _ hl.1), hl.2]; decide
      · rw [gt_less_keep ho hF (by omega) (h0 _ (by omega))]; exact lead_zero ho ht (by omega)
    refine ⟨fun r hr => ?_, ⟨fun r hr => ?_, fun r hr => ?_, ?_⟩⟩
    · obtain ⟨x, hx, rfl⟩ := List.mem_map.mp hr
      obtain ⟨hxo, hxz⟩ := h.l x hx
      refine ⟨lessR_ok hp hF hxo, fun t ht => ?_⟩
      by_cases e2 : t = i
      · rw [e2]; exact gt_less_at hxo hF hi h1
      · rw [gt_less_keep hxo hF (by omega) (h0 t (by omega))]; exact hxz t (by omega)
    · rcases List.mem_append.mp hr with hr | hr
      · obtain ⟨x, hx, rfl⟩ := List.mem_map.mp hr
        exact lessR_ok hp hF (h.f.ok x hx)
      · rw [List.mem_singleton.mp hr]; exact hF
    · rcases List.mem_append.mp hr with hr | hr
      · obtain ⟨x, hx, rfl⟩ := List.mem_map.mp hr
        have hl := h.f.lead x hx
        rw [hkeep x hx]
        exact ⟨by omega, by rw [gt_less_keep (h.f.ok x hx) hF (by omega) (h0 _ hl.1)]; exact hl.2⟩
      · rw [List.mem_singleton.mp hr, hlead]; exact ⟨by omega, h1⟩
    · refine List.pairwise_append.mpr ⟨List.pairwise_map.mpr (h.f.pw.imp_of_mem fun {a b} ha hb hab => ?_), List.pairwise_singleton _ _, fun a ha b hb => ?_⟩
      · have hlb := h.f.lead b hb
        rw [hkeep a ha, hkeep b hb]
        exact ⟨hab.1, by rw [gt_less_keep (h.f.ok a ha) hF (by omega) (h0 _ hlb.1)]; exact hab.2⟩
      · obtain ⟨x, hx, rfl⟩ := List.mem_map.mp ha
        rw [List.mem_singleton.mp hb, hkeep x hx, hlead]
        exact ⟨(h.f.lead x hx).1, gt_less_at (h.f.ok x hx) hF hi h1⟩
theorem redBy_ech {p : Int} {n : Nat} {rows : List (List Int)} (hp : PrmI p) (h : ∀ r ∈ rows, RowOk p n r) : ∀ i, i ≤ n → StE p n i (redBy p rows i)
  | 0, _ => ⟨fun r hr => ⟨h r hr, fun t ht => by omega⟩, ⟨fun r hr => (nomatch hr), fun r hr => (nomatch hr), .nil⟩⟩
  | i + 1, hi => by rw [redBy_succ]; exact redStep_ech hp (by omega) (redBy_ech hp h i (by omega))
theorem reducedBy_ech {p : Int} {n : Nat} {rows : List (List Int)} (hp : PrmI p) (h : ∀ r ∈ rows, RowOk p n r) : Ech p n n (reducedBy p rows n) := (redBy_ech hp h n (Nat.le_refl _)).f
theorem Ech.pos {p : Int} {n : Nat} {rows : List (List Int)} (h : Ech p n n rows) : ∀ r ∈ rows, ∃ i, i < r.length ∧ 0 < gt r i := fun r hr =>
  ⟨leadOf r, by rw [(h.ok r hr).1]; exact (h.lead r hr).1, by rw [(h.lead r hr).2]; decide⟩
/-- the column of a lead, at another row -/
theorem Ech.clean {p : Int} {n i : Nat} {rows : List (List Int)} (h : Ech p n i rows) (hi : i ≤ n) {a b : Nat} {ra rb : List Int} (ha : rows[a]? = some ra) (hb : rows[b]? = some rb) (hab : a ≠ b) : gt ra (leadOf rb) = 0 := by
  obtain ⟨ha1, rfl⟩ := List.getElem?_eq_some_iff.mp ha
  obtain ⟨hb1, rfl⟩ := List.getElem?_eq_some_iff.mp hb
  have pw := List.pairwise_iff_getElem.mp h.pw
  by_cases hlt : a < b
  · exact (pw a b ha1 hb1 hlt).2
  · have := pw b a hb1 ha1 (by omega)
    exact lead_zero (h.ok _ (List.getElem_mem ha1)) this.1 (by have := (h.lead _ (List.getElem_mem ha1)).1; omega)
theorem Ech.leads_nodup {p : Int} {n i : Nat} {rows : List (List Int)} (h : Ech p n i rows) : (rows.map leadOf).Pairwise (· < ·) := List.pairwise_map.mpr (h.pw.imp fun x => x.1)
/-! ### what is orthogonal stays so -/
theorem redStep_perp {p : Int} {n i : Nat} {st : List (List Int) × List (List Int)} {w : Nat → Int} (hp : PrmI p) (hi : i < n) (h : StE p n i st) :
    (Perp p n (redStep p st i).1 w ∧ Perp p n (redStep p st i).2 w) ↔ (Perp p n st.1 w ∧ Perp p n st.2 w) := by
  unfold redStep
  cases e : st.1.filter (fun r => decide (0 < gt r i)) with
  | nil => exact Iff.rfl
  | cons fr fs =>
    have hm : fr ∈ st.1.filter (fun r => decide (0 < gt r i)) := e ▸ List.mem_cons_self
    have hfr := (List.mem_filter.mp hm).1
    have hok := (h.l fr hfr).1
    have hF := ledR_ok (spot := i) hp hok
    have one : ∀ r, RowOk p n r → p ∣ dot (gt (ledR p i fr)) w n → (p ∣ dot (gt (lessR p (ledR p i fr) i r)) w n ↔ p ∣ dot (gt r) w n) := fun r hr hd => by
      have hq := dot_less (p := p) (spot := i) hr.1 hF.1 w
      constructor
      · intro h1
        have h2 := dvd_of_sub' hq h1
        have e2 : dot (gt r) w n = (dot (gt r) w n - gt r i * dot (gt (ledR p i fr)) w n) + gt r i * dot (gt (ledR p i fr)) w n := by omega
        rw [e2]; exact Int.dvd_add h2 (Int.dvd_mul_of_dvd_right hd)
      · intro h1
        exact dvd_of_sub hq (Int.dvd_sub h1 (Int.dvd_mul_of_dvd_right hd))
    constructor
    · rintro ⟨h1, h2⟩
      have hd : p ∣ dot (gt (ledR p i fr)) w n := h2 _ (List.mem_append_right _ List.mem_cons_self)
      exact ⟨fun r hr => (one r (h.l r hr).1 hd).mp (h1 _ (List.mem_map_of_mem hr)), fun r hr => (one r (h.f.ok r hr) hd).mp (h2 _ (List.mem_append_left _ (List.mem_map_of_mem hr)))⟩
    · rintro ⟨h1, h2⟩
      have hd : p ∣ dot (gt (ledR p i fr)) w n := dvd_of_sub (dot_led hok.1 w) (Int.dvd_mul_of_dvd_right (h1 fr hfr))
      refine ⟨fun r hr => ?_, fun r hr => ?_⟩
      · obtain ⟨x, hx, rfl⟩ := List.mem_map.mp hr
        exact (one x (h.l x hx).1 hd).mpr (h1 x hx)
      · rcases List.mem_append.mp hr with hr | hr
        · obtain ⟨x, hx, rfl⟩ := List.mem_map.mp hr
          exact (one x (h.f.ok x hx) hd).mpr (h2 x hx)
        · rw [List.mem_singleton.mp hr]; exact hd
theorem redBy_perp {p : Int} {n : Nat} {rows : List (List Int)} {w : Nat → Int} (hp : PrmI p) (h : ∀ r ∈ rows, RowOk p n r) : ∀ i, i ≤ n → ((Perp p n (redBy p rows i).1 w ∧ Perp p n (redBy p rows i).2 w) ↔ Perp p n rows w)
  | 0, _ => ⟨fun h => h.1, fun h => ⟨h, fun r hr => by cases hr⟩⟩
  | i + 1, hi => by rw [redBy_succ, redStep_perp hp (by omega) (redBy_ech hp h i (by omega))]; exact redBy_perp hp h i (by omega)
/-- the reduced rows tell the same -/
theorem reducedBy_perp {p : Int} {n : Nat} {rows : List (List Int)} {w : Nat → Int} (hp : PrmI p) (h : ∀ r ∈ rows, RowOk p n r) : Perp p n (reducedBy p rows n) w ↔ Perp p n rows w := by
  rw [← redBy_perp hp h n (Nat.le_refl _)]
  refine ⟨fun hf => ⟨fun r hr => ?_, hf⟩, fun h => h.2⟩
  rw [dot_zero n fun i hi => ((redBy_ech hp h n (Nat.le_refl _)).l r hr).2 i hi]
  exact ⟨0, by simp⟩
end Dt

/-! Nul: the kept rows and the words; what lies in them. -/
namespace Dt
theorem gt_set {r : List Int} {i s : Nat} {v : Int} (h : i < r.length) : gt (r.set i v) s = if s = i then v else gt r s := by
  unfold gt
  rw [List.getD_eq_getElem?_getD, List.getD_eq_getElem?_getD]
  by_cases e : s = i
  · rw [if_pos e, e, List.getElem?_set_self h]; rfl
  · rw [if_neg e, List.getElem?_set_ne (fun z => e z.symm)]
abbrev kset (p : Int) (free : Nat) (f : List Int) (q : Nat × List Int) : List Int := f.set q.1 (-(gt q.2 free) % p)
theorem kfold_len {p : Int} {free : Nat} : ∀ (qs : List (Nat × List Int)) (f : List Int), (qs.foldl (kset p free) f).length = f.length
  | [], _ => rfl
  | q :: qs, f => by rw [List.foldl_cons, kfold_len qs]; simp
theorem kfold_out {p : Int} {free s : Nat} : ∀ (qs : List (Nat × List Int)) (f : List Int), (∀ q ∈ qs, q.1 < f.length) → s ∉ qs.map (·.1) → gt (qs.foldl (kset p free) f) s = gt f s
  | [], _, _, _ => rfl
  | q :: qs, f, hl, h => by
    rw [List.foldl_cons, kfold_out qs _ (fun q' hq' => by simpa using hl q' (List.mem_cons_of_mem _ hq')) (fun z => h (by rw [List.map_cons]; exact List.mem_cons_of_mem _ z)), gt_set (hl q List.mem_cons_self), if_neg]
    intro z; exact h (by rw [z]; exact List.mem_cons_self)
theorem kfold_in {p : Int} {free : Nat} : ∀ (qs : List (Nat × List Int)) (f : List Int), (∀ q ∈ qs, q.1 < f.length) → (qs.map (·.1)).Nodup → ∀ q ∈ qs, gt (qs.foldl (kset p free) f) q.1 = -(gt q.2 free) % p
  | [], _, _, _, q, hq => by cases hq
  | q0 :: qs, f, hl, nd, q, hq => by
    rw [List.foldl_cons]
    rw [List.map_cons, List.nodup_cons] at nd
    have hl' : ∀ q ∈ qs, q.1 < (kset p free f q0).length := fun q' hq' => by simpa using hl q' (List.mem_cons_of_mem _ hq')
    rcases List.mem_cons.mp hq with rfl | hq
    · rw [kfold_out qs _ hl' nd.1, gt_set (hl _ List.mem_cons_self), if_pos rfl]
    · exact kfold_in qs _ hl' nd.2 q hq
theorem zip_leads (red : List (List Int)) : (red.map leadOf).zip red = red.map fun r => (leadOf r, r) := by
  induction red with
  | nil => rfl
  | cons r rs ih => rw [List.map_cons, List.zip_cons_cons, ih, List.map_cons]
theorem gt_base {n free s : Nat} (hs : s < n) : gt ((List.range n).map fun s => if s = free then (1 : Int) else 0) s = if s = free then 1 else 0 := by
  unfold gt
  rw [List.getD_eq_getElem?_getD, List.getElem?_map, List.getElem?_range hs]; rfl
abbrev keptOf (p : Int) (red : List (List Int)) (n free : Nat) : List Int := keptRow p red (red.map leadOf) n free
theorem kept_eq (p : Int) (red : List (List Int)) (n free : Nat) : keptOf p red n free = (red.map fun r => (leadOf r, r)).foldl (kset p free) ((List.range n).map fun s => if s = free then 1 else 0) := by
  unfold keptOf keptRow; rw [zip_leads]
section
variable {p : Int} {n : Nat} {red : List (List Int)}
theorem kept_hl (h : Ech p n n red) (free : Nat) : ∀ q ∈ red.map (fun r => (leadOf r, r)), q.1 < ((List.range n).map fun s => if s = free then (1 : Int) else 0).length := fun q hq => by
  obtain ⟨r, hr, rfl⟩ := List.mem_map.mp hq
  simpa using (h.lead r hr).1
theorem kept_lead (h : Ech p n n red) {free : Nat} {r : List Int} (hr : r ∈ red) : gt (keptOf p red n free) (leadOf r) = -(gt r free) % p := by
  rw [kept_eq]
  refine kfold_in (q := (leadOf r, r)) _ _ (kept_hl h free) ?_ (List.mem_map_of_mem (f := fun r => (leadOf r, r)) hr)
  rw [List.map_map]
  exact (h.leads_nodup).imp fun x => by omega
theorem kept_out (h : Ech p n n red) {free s : Nat} (hs : s < n) (hl : s ∉ red.map leadOf) : gt (keptOf p red n free) s = if s = free then 1 else 0 := by
  rw [kept_eq, kfold_out _ _ (kept_hl h free) (by rw [List.map_map]; exact hl), gt_base hs]
theorem kept_ok (hp : PrmI p) (h : Ech p n n red) (free : Nat) : RowOk p n (keptOf p red n free) := by
  have h2 := hp.two
  have hlen : (keptOf p red n free).length = n := by rw [kept_eq, kfold_len]; simp
  refine ⟨hlen, fun x hx => ?_⟩
  obtain ⟨s, hs, rfl⟩ := List.getElem_of_mem hx
  have e : (keptOf p red n free)[s] = gt (keptOf p red n free) s := by
    have := gt_get hs; rw [List.getElem?_eq_getElem hs] at this; exact Option.some.inj this
  rw [e]
  by_cases hl : s ∈ red.map leadOf
  · obtain ⟨r, hr, rfl⟩ := List.mem_map.mp hl
    rw [kept_lead h hr]
    exact ⟨Int.emod_nonneg _ (by omega), Int.emod_lt_of_pos _ (by omega)⟩
  · rw [kept_out h (by omega) hl]; split <;> omega
/-- a kept row is orthogonal to the rows -/
theorem kept_perp (hp : PrmI p) (h : Ech p n n red) {free : Nat} (hf : free < n) (hl : free ∉ red.map leadOf) : Perp p n red (gt (keptOf p red n free)) := fun r hr => by
  have hlr := h.lead r hr
  have e : dot (gt r) (gt (keptOf p red n free)) n = dot (fun s => 1 * (if s = free then 1 else 0) + 1 * (gt (keptOf p red n free) s - (if s = free then 1 else 0))) (gt r) n := by
    rw [dot_comm]
    exact dot_congr n fun i hi => ⟨by grind, rfl⟩
  rw [e, dot_lin]
  have e1 : dot (fun s => if s = free then (1 : Int) else 0) (gt r) n = gt r free := by
    rw [dot_one (i := free) n hf (fun j hj hne => by simp [hne])]; simp
  have e2 : p ∣ dot (fun s => gt (keptOf p red n free) s - (if s = free then 1 else 0)) (gt r) n - (gt (keptOf p red n free) (leadOf r) - (if leadOf r = free then 1 else 0)) * gt r (leadOf r) := by
    refine dot_one_mod (i := leadOf r) hlr.1 fun j hj hne => ?_
    by_cases hj2 : j ∈ red.map leadOf
    · obtain ⟨r', hr', rfl⟩ := List.mem_map.mp hj2
      have : gt r (leadOf r') = 0 := by
        obtain ⟨a, ha, ea⟩ := List.getElem_of_mem hr
        obtain ⟨b, hb, eb⟩ := List.getElem_of_mem hr'
        refine h.clean (Nat.le_refl _) (a := a) (b := b) (by rw [List.getElem?_eq_getElem ha, ea]) (by rw [List.getElem?_eq_getElem hb, eb]) ?_
        rintro rfl
        exact hne (by rw [← eb, ← ea])
      rw [this]; simp
    · rw [kept_out h hj hj2]; simp
  rw [kept_lead h hr, hlr.2, if_neg (show ¬ leadOf r = free from fun z => hl (by rw [← z]; exact List.mem_map_of_mem hr))] at e2
  rw [e1, Int.one_mul, Int.one_mul]
  have e3 := dvd_emod_sub p (-(gt r free))
  have e4 : gt r free + dot (fun s => gt (keptOf p red n free) s - (if s = free then 1 else 0)) (gt r) n = (dot (fun s => gt (keptOf p red n free) s - (if s = free then 1 else 0)) (gt r) n - (-gt r free % p - 0) * 1) + (-gt r free % p - -gt r free) := by omega
  rw [e4]
  exact Int.dvd_add e2 e3
/-- what is orthogonal and nought at the free places is nought -/
theorem perp_zero (hp : PrmI p) (h : Ech p n n red) {v : Nat → Int} (hv : Perp p n red v) (hz : ∀ s < n, s ∉ red.map leadOf → p ∣ v s) : ∀ s < n, p ∣ v s := fun s hs => by
  by_cases hl : s ∈ red.map leadOf
  · obtain ⟨r, hr, rfl⟩ := List.mem_map.mp hl
    have hlr := h.lead r hr
    have e := dot_one_mod (p := p) (f := gt r) (g := v) hs fun j hj hne => by
      by_cases hj2 : j ∈ red.map leadOf
      · obtain ⟨r', hr', rfl⟩ := List.mem_map.mp hj2
        have : gt r (leadOf r') = 0 := by
          obtain ⟨a, ha, ea⟩ := List.getElem_of_mem hr
          obtain ⟨b, hb, eb⟩ := List.getElem_of_mem hr'
          refine h.clean (Nat.le_refl _) (a := a) (b := b) (by rw [List.getElem?_eq_getElem ha, ea]) (by rw [List.getElem?_eq_getElem hb, eb]) ?_
          rintro rfl
          exact hne (by rw [← eb, ← ea])
        rw [this]; simp
      · exact Int.dvd_mul_of_dvd_right (hz j hj hj2)
    have := dvd_of_sub' e (hv r hr)
    rw [hlr.2, Int.one_mul] at this
    exact this
  · exact hz s hs hl
/-- what is orthogonal to the kept rows is orthogonal to all that is orthogonal to the rows -/
theorem kept_span (hp : PrmI p) (h : Ech p n n red) {x : Nat → Int} (hx : ∀ f < n, f ∉ red.map leadOf → p ∣ dot (gt (keptOf p red n f)) x n) : ∀ v, Perp p n red v → p ∣ dot v x n := by
  have key : ∀ (fs : List Nat), (∀ f ∈ fs, f < n ∧ f ∉ red.map leadOf) → ∀ v, Perp p n red v → (∀ s < n, s ∉ red.map leadOf → s ∉ fs → p ∣ v s) → p ∣ dot v x n := fun fs => by
    induction fs with
    | nil => intro _ v hv hz; exact dot_dvd n fun i hi => Int.dvd_mul_of_dvd_left (perp_zero hp h hv (fun s hs hl => hz s hs hl (by simp)) i hi)
    | cons f fs ih =>
      intro hfs v hv hz
      obtain ⟨hf, hl⟩ := hfs f List.mem_cons_self
      have := ih (fun g hg => hfs g (List.mem_cons_of_mem _ hg)) (fun s => 1 * v s + (- v f) * gt (keptOf p red n f) s) (fun r hr => by
        rw [dot_comm, dot_lin, dot_comm v, dot_comm (gt (keptOf p red n f))]
        exact Int.dvd_add (Int.dvd_mul_of_dvd_right (hv r hr)) (Int.dvd_mul_of_dvd_right (kept_perp hp h hf hl r hr))) fun s hs hsl hsf => by
          rw [kept_out h hs hsl]
          by_cases e : s = f
          · subst e; rw [if_pos rfl]; exact ⟨0, by grind⟩
          · rw [if_neg e]
            have := hz s hs hsl (by simp [e, hsf])
            simpa using this
      rw [dot_lin] at this
      have e : dot v x n = (1 * dot v x n + -v f * dot (gt (keptOf p red n f)) x n) + v f * dot (gt (keptOf p red n f)) x n := by grind
      rw [e]
      exact Int.dvd_add this (Int.dvd_mul_of_dvd_right (hx f hf hl))
  intro v hv
  exact key (freesOf n (red.map leadOf)) (fun f hf => by
    have := List.mem_filter.mp hf
    exact ⟨List.mem_range.mp this.1, by simpa using this.2⟩) v hv fun s hs hl hsf => absurd (List.mem_filter.mpr ⟨List.mem_range.mpr hs, by simpa using hl⟩) hsf
/-- what is orthogonal to all that is orthogonal to the rows: some row tells of each place -/
theorem span_row (hp : PrmI p) (h : Ech p n n red) {x : Nat → Int} (hx : ∀ v, Perp p n red v → p ∣ dot v x n) {f : Nat} (hf : f < n) (hxf : ¬ p ∣ x f) : ∃ r ∈ red, gt r f ≠ 0 ∧ ¬ p ∣ x (leadOf r) := by
  by_cases hl : f ∈ red.map leadOf
  · obtain ⟨r, hr, rfl⟩ := List.mem_map.mp hl
    exact ⟨r, hr, by rw [(h.lead r hr).2]; decide, hxf⟩
  · refine Classical.byContradiction fun hno => hxf ?_
    have hk := hx _ (kept_perp hp h hf hl)
    have e := dot_one_mod (p := p) (f := gt (keptOf p red n f)) (g := x) hf fun j hj hne => by
      by_cases hj2 : j ∈ red.map leadOf
      · obtain ⟨r, hr, rfl⟩ := List.mem_map.mp hj2
        rw [kept_lead h hr]
        by_cases h0 : gt r f = 0
        · rw [h0]; simp
        · have : p ∣ x (leadOf r) := Classical.byContradiction fun z => hno ⟨r, hr, h0, z⟩
          exact Int.dvd_mul_of_dvd_right this
      · rw [kept_out h hj hj2, if_neg hne]; simp
    rw [kept_out h hf hl, if_pos rfl, Int.one_mul] at e
    exact dvd_of_sub' e hk
/-- a place ahead that no row tells alone: some word ahead differs there -/
theorem word_ahead (hp : PrmI p) (h : Ech p n n red) {L t : Nat} (hL : L ≤ n) (ht : t < L) (hno : ¬ ∃ r ∈ red, leadOf r = t ∧ ∀ u < L, u ≠ t → gt r u = 0) : ∃ w : Nat → Int, Perp p n red w ∧ (∀ s, L ≤ s → s < n → p ∣ w s) ∧ ¬ p ∣ w t := by
  have h2 := hp.two
  have hz : ∀ u < L, ∀ s, L ≤ s → s < n → p ∣ gt (keptOf p red n u) s := fun u hu s hs hsn => by
    by_cases hl : s ∈ red.map leadOf
    · obtain ⟨r, hr, rfl⟩ := List.mem_map.mp hl
      rw [kept_lead h hr, lead_zero (h.ok r hr) (by omega) (h.lead r hr).1]; simp
    · rw [kept_out h hsn hl, if_neg (by omega)]; simp
  by_cases hl : t ∈ red.map leadOf
  · obtain ⟨r, hr, hrt⟩ := List.mem_map.mp hl
    have : ∃ u, u < L ∧ u ≠ t ∧ gt r u ≠ 0 := Classical.byContradiction fun z => hno ⟨r, hr, hrt, fun u hu hne => Classical.byContradiction fun z2 => z ⟨u, hu, hne, z2⟩⟩
    obtain ⟨u, hu, hne, hgu⟩ := this
    have hul : u ∉ red.map leadOf := fun z => by
      obtain ⟨r', hr', rfl⟩ := List.mem_map.mp z
      obtain ⟨a, ha, ea⟩ := List.getElem_of_mem hr
      obtain ⟨b, hb, eb⟩ := List.getElem_of_mem hr'
      refine hgu (h.clean (Nat.le_refl _) (a := a) (b := b) (by rw [List.getElem?_eq_getElem ha, ea]) (by rw [List.getElem?_eq_getElem hb, eb]) ?_)
      rintro rfl
      exact hne (by rw [← hrt, ← eb, ← ea])
    refine ⟨gt (keptOf p red n u), kept_perp hp h (by omega) hul, hz u hu, fun z => hgu ?_⟩
    rw [← hrt, kept_lead h hr] at z
    have hb := (h.ok r hr).at (show u < n by omega)
    have h3 := dvd_of_sub' (dvd_emod_sub p (-(gt r u))) z
    exact small_zero (Int.dvd_neg.mp h3) hb.1 hb.2
  · refine ⟨gt (keptOf p red n t), kept_perp hp h (by omega) hl, hz t ht, fun z => ?_⟩
    rw [kept_out h (by omega) hl, if_pos rfl] at z
    have := Int.le_of_dvd (by decide) z
    omega
end
/-! ### the words -/
theorem nullBy_ok {p : Int} {n : Nat} {rows : List (List Int)} (hp : PrmI p) (h : ∀ r ∈ rows, RowOk p n r) : Ech p n n (nullBy p rows n) := by
  refine reducedBy_ech hp fun r hr => ?_
  obtain ⟨f, _, rfl⟩ := List.mem_map.mp hr
  exact kept_ok hp (reducedBy_ech hp h) f
/-- orthogonal to the words: orthogonal to all that is orthogonal to the sums, and the other way -/
theorem nullBy_perp {p : Int} {n : Nat} {rows : List (List Int)} (hp : PrmI p) (h : ∀ r ∈ rows, RowOk p n r) (x : Nat → Int) :
    Perp p n (nullBy p rows n) x ↔ ∀ v, Perp p n rows v → p ∣ dot v x n := by
  have hE := reducedBy_ech hp h
  have hk : ∀ r ∈ (freesOf n ((reducedBy p rows n).map leadOf)).map (keptRow p (reducedBy p rows n) ((reducedBy p rows n).map leadOf) n), RowOk p n r := fun r hr => by
    obtain ⟨f, _, rfl⟩ := List.mem_map.mp hr
    exact kept_ok hp hE f
  unfold nullBy
  rw [reducedBy_perp hp hk]
  constructor
  · intro hx v hv
    refine kept_span hp hE (fun f hf hl => hx _ (List.mem_map_of_mem (List.mem_filter.mpr ⟨List.mem_range.mpr hf, by simpa using hl⟩))) v ((reducedBy_perp hp h).mpr hv)
  · intro hx r hr
    obtain ⟨f, hf, rfl⟩ := List.mem_map.mp hr
    have hf2 := List.mem_filter.mp hf
    exact hx _ ((reducedBy_perp hp h).mp (kept_perp hp hE (List.mem_range.mp hf2.1) (by simpa using hf2.2)))
end Dt

/-! Ord: rows in another order; the alone rows; the words within a lot. -/
namespace Dt
def lsum (l : List Nat) (h : Nat → Int) : Int := (l.map h).sum
theorem lsum_nil (h : Nat → Int) : lsum [] h = 0 := rfl
theorem lsum_cons (a : Nat) (l : List Nat) (h : Nat → Int) : lsum (a :: l) h = h a + lsum l h := by unfold lsum; rw [List.map_cons, List.sum_cons]
theorem lsum_app (h : Nat → Int) : ∀ l m : List Nat, lsum (l ++ m) h = lsum l h + lsum m h
  | [], m => by rw [List.nil_append, lsum_nil]; simp
  | a :: l, m => by rw [List.cons_append, lsum_cons, lsum_cons, lsum_app h l m]; omega
theorem lsum_perm (h : Nat → Int) {l m : List Nat} (e : l.Perm m) : lsum l h = lsum m h := by
  induction e with
  | nil => rfl
  | cons a _ ih => rw [lsum_cons, lsum_cons, ih]
  | swap a b l => rw [lsum_cons, lsum_cons, lsum_cons, lsum_cons]; omega
  | trans _ _ i1 i2 => rw [i1, i2]
theorem lsum_filter (h : Nat → Int) (q : Nat → Bool) : ∀ l : List Nat, lsum l h = lsum (l.filter q) h + lsum (l.filter fun x => !q x) h
  | [] => rfl
  | a :: l => by
    have ih := lsum_filter h q l
    cases e : q a with
    | true => rw [List.filter_cons_of_pos (by simpa using e), List.filter_cons_of_neg (by simp [e]), lsum_cons, lsum_cons]; omega
    | false => rw [List.filter_cons_of_neg (by simp [e]), List.filter_cons_of_pos (by simp [e]), lsum_cons, lsum_cons]; omega
theorem lsum_dvd {p : Int} {h : Nat → Int} : ∀ l : List Nat, (∀ x ∈ l, p ∣ h x) → p ∣ lsum l h
  | [], _ => ⟨0, by simp [lsum_nil]⟩
  | a :: l, hh => by rw [lsum_cons]; exact Int.dvd_add (hh a List.mem_cons_self) (lsum_dvd l fun x hx => hh x (List.mem_cons_of_mem _ hx))
theorem dot_lsum (f g : Nat → Int) : ∀ n, dot f g n = lsum (List.range n) fun i => f i * g i
  | 0 => rfl
  | n + 1 => by
    rw [List.range_succ, lsum_app, lsum_cons, lsum_nil, ← dot_lsum f g n]
    show dot f g n + f n * g n = _
    omega
theorem list_range (S : List Nat) : S = (List.range S.length).map fun i => S.getD i 0 := by
  refine List.ext_getElem (by simp) fun i h1 h2 => ?_
  rw [List.getElem_map, List.getElem_range, List.getD_eq_getElem?_getD, List.getElem?_eq_getElem h1]; rfl
theorem lsum_pos (S : List Nat) (h : Nat → Int) : lsum (List.range S.length) (fun i => h (S.getD i 0)) = lsum S h := by
  conv => rhs; rw [list_range S]
  unfold lsum; rw [List.map_map]; rfl
theorem gt_cut {r : List Int} {S : List Nat} {i : Nat} (hi : i < S.length) : gt (S.map (gt r)) i = gt r (S.getD i 0) := by
  show (S.map (gt r)).getD i 0 = _
  rw [List.getD_eq_getElem?_getD, List.getElem?_map, List.getD_eq_getElem?_getD, List.getElem?_eq_getElem hi]; rfl
/-- what lies on S is told by the cut row -/
theorem dot_cut {p : Int} {n : Nat} {S : List Nat} {r : List Int} {w : Nat → Int} (nd : S.Nodup) (hS : ∀ x ∈ S, x < n) (hw : ∀ s < n, s ∉ S → p ∣ w s) : p ∣ dot (gt r) w n - dot (gt (S.map (gt r))) (fun i => w (S.getD i 0)) S.length := by
  have e1 : dot (gt (S.map (gt r))) (fun i => w (S.getD i 0)) S.length = lsum S fun k => gt r k * w k := by
    rw [dot_congr (f' := fun i => gt r (S.getD i 0)) (g' := fun i => w (S.getD i 0)) S.length fun i hi => ⟨gt_cut hi, rfl⟩, dot_lsum]
    exact lsum_pos S fun k => gt r k * w k
  have e2 : ((List.range n).filter fun x => decide (x ∈ S)).Perm S := by
    refine (List.perm_ext_iff_of_nodup (List.nodup_range.filter _) nd).mpr fun a => ?_
    rw [List.mem_filter, List.mem_range]
    exact ⟨fun h => by simpa using h.2, fun h => ⟨hS a h, by simpa using h⟩⟩
  rw [e1, dot_lsum, lsum_filter _ (fun x => decide (x ∈ S)), lsum_perm _ e2]
  have e3 : ∀ a b : Int, a + b - a = b := by omega
  rw [e3]
  refine lsum_dvd _ fun x hx => Int.dvd_mul_of_dvd_right (hw x ?_ ?_)
  · exact List.mem_range.mp (List.mem_filter.mp hx).1
  · have := (List.mem_filter.mp hx).2
    simpa using this
/-! ### an order of the places -/
def orderOf (n : Nat) (ahead : List Nat) : List Nat := ahead ++ (List.range n).filter fun s => decide (s ∉ ahead)
structure IsOrd (n : Nat) (o : List Nat) : Prop where
  nd : o.Nodup
  mem : ∀ x, x ∈ o ↔ x < n
theorem orderOf_ok {n : Nat} {a : List Nat} (nd : a.Nodup) (h : ∀ x ∈ a, x < n) : IsOrd n (orderOf n a) := by
  unfold orderOf
  refine ⟨List.nodup_append.mpr ⟨nd, List.nodup_range.filter _, fun x hx y hy e => ?_⟩, fun x => ?_⟩
  · subst e; have := (List.mem_filter.mp hy).2; simp at this; exact this hx
  · rw [List.mem_append, List.mem_filter, List.mem_range]
    refine ⟨fun h' => h'.elim (h x) fun h' => h'.1, fun hx => ?_⟩
    by_cases e : x ∈ a
    · exact .inl e
    · exact .inr ⟨hx, by simpa using e⟩
theorem IsOrd.len {n : Nat} {o : List Nat} (h : IsOrd n o) : o.length = n := by
  have : o.Perm (List.range n) := (List.perm_ext_iff_of_nodup h.nd List.nodup_range).mpr fun a => by rw [h.mem, List.mem_range]
  rw [this.length_eq, List.length_range]
theorem IsOrd.get {n : Nat} {o : List Nat} (h : IsOrd n o) {i : Nat} (hi : i < n) : o.getD i 0 < n := by
  rw [← h.mem, List.getD_eq_getElem?_getD, List.getElem?_eq_getElem (by rw [h.len]; exact hi)]
  exact List.getElem_mem _
theorem IsOrd.idx {n : Nat} {o : List Nat} (h : IsOrd n o) {s : Nat} (hs : s < n) : o.idxOf s < n ∧ o.getD (o.idxOf s) 0 = s := by
  have hm := (h.mem s).mpr hs
  have hl := List.idxOf_lt_length_of_mem hm
  refine ⟨by rw [← h.len]; exact hl, ?_⟩
  rw [List.getD_eq_getElem?_getD, List.getElem?_eq_getElem hl]
  exact List.getElem_idxOf hl
theorem IsOrd.idx_get {n : Nat} {o : List Nat} (h : IsOrd n o) {i : Nat} (hi : i < n) : o.idxOf (o.getD i 0) = i := by
  have hl : i < o.length := by rw [h.len]; exact hi
  rw [List.getD_eq_getElem?_getD, List.getElem?_eq_getElem hl]
  exact h.nd.idxOf_getElem i hl
theorem ord_ahead {n : Nat} {a : List Nat} {i : Nat} (hi : i < a.length) : (orderOf n a).getD i 0 = a.getD i 0 := by
  unfold orderOf
  rw [List.getD_eq_getElem?_getD, List.getElem?_append_left hi, List.getD_eq_getElem?_getD]
theorem ord_behind {n : Nat} {a : List Nat} {i : Nat} (nd : a.Nodup) (h : ∀ x ∈ a, x < n) (hi : a.length ≤ i) (hn : i < n) : (orderOf n a).getD i 0 ∉ a := by
  have ho := orderOf_ok nd h
  have hl : i < (orderOf n a).length := by rw [ho.len]; exact hn
  rw [List.getD_eq_getElem?_getD, List.getElem?_eq_getElem hl]
  show (orderOf n a)[i] ∉ a
  have e : (orderOf n a)[i] ∈ (List.range n).filter fun s => decide (s ∉ a) := by
    unfold orderOf at hl ⊢
    rw [List.getElem_append_right hi]
    exact List.getElem_mem _
  simpa using (List.mem_filter.mp e).2
section
variable {p : Int} {n : Nat} {rows : List (List Int)} {o : List Nat}
theorem cut_ok (h : ∀ r ∈ rows, RowOk p n r) (ho : IsOrd n o) : ∀ r ∈ cutRows rows o, RowOk p n r := fun r hr => by
  obtain ⟨x, hx, rfl⟩ := List.mem_map.mp hr
  refine ⟨by rw [List.length_map, ho.len], fun y hy => ?_⟩
  obtain ⟨s, hs, rfl⟩ := List.mem_map.mp hy
  exact (h x hx).at ((ho.mem s).mp hs)
/-- by the order -/
theorem dot_ord (ho : IsOrd n o) (r : List Int) (w : Nat → Int) : dot (gt (o.map (gt r))) (fun i => w (o.getD i 0)) n = dot (gt r) w n := by
  have e := dot_cut (p := 0) (r := r) (w := w) ho.nd (fun x hx => (ho.mem x).mp hx) fun s hs hno => absurd ((ho.mem s).mpr hs) hno
  rw [ho.len] at e
  have := Int.zero_dvd.mp e
  omega
theorem perp_ord (ho : IsOrd n o) (w : Nat → Int) : Perp p n (cutRows rows o) (fun i => w (o.getD i 0)) ↔ Perp p n rows w := by
  constructor
  · intro h r hr
    have := h _ (List.mem_map_of_mem hr)
    rwa [dot_ord ho] at this
  · intro h r hr
    obtain ⟨x, hx, rfl⟩ := List.mem_map.mp hr
    rw [dot_ord ho]; exact h x hx
theorem perp_congr {w w' : Nat → Int} (e : ∀ i < n, w i = w' i) : Perp p n rows w ↔ Perp p n rows w' := by
  unfold Perp
  constructor
  · intro h r hr; rw [← dot_congr n fun i hi => ⟨rfl, e i hi⟩]; exact h r hr
  · intro h r hr; rw [dot_congr n fun i hi => ⟨rfl, e i hi⟩]; exact h r hr
/-- back from the order's places -/
theorem perp_back (ho : IsOrd n o) {w : Nat → Int} (h : Perp p n (cutRows rows o) w) : Perp p n rows fun s => w (o.idxOf s) := by
  rw [← perp_ord ho]
  exact (perp_congr fun i hi => by show w i = w (o.idxOf (o.getD i 0)); rw [ho.idx_get hi]).mp h
end
def putBack (row : List Int) (o : List Nat) : List Int := (List.range o.length).map fun s => gt row (o.idxOf s)
theorem gt_put {row : List Int} {o : List Nat} {s : Nat} (hs : s < o.length) : gt (putBack row o) s = gt row (o.idxOf s) := by
  show ((List.range o.length).map _).getD s 0 = _
  rw [List.getD_eq_getElem?_getD, List.getElem?_map, List.getElem?_range hs]; rfl
theorem put_ok {p : Int} {n : Nat} {o : List Nat} {row : List Int} (ho : IsOrd n o) (h : RowOk p n row) : RowOk p n (putBack row o) := by
  refine ⟨by unfold putBack; rw [List.length_map, List.length_range, ho.len], fun x hx => ?_⟩
  obtain ⟨s, hs, rfl⟩ := List.mem_map.mp hx
  have hs : s < n := by rw [← ho.len]; exact List.mem_range.mp hs
  exact h.at (ho.idx hs).1
theorem dot_put {n : Nat} {o : List Nat} {row : List Int} (ho : IsOrd n o) (hr : row.length = n) (w : Nat → Int) : dot (gt (putBack row o)) w n = dot (gt row) (fun i => w (o.getD i 0)) n := by
  rw [← dot_ord ho]
  refine dot_congr n fun i hi => ⟨?_, rfl⟩
  rw [gt_cut (by rw [ho.len]; exact hi), gt_put (by rw [ho.len]; exact ho.get hi), ho.idx_get hi]
/-! ### told alone -/
/-- known from what is not lost -/
def Known (p : Int) (n : Nat) (rows : List (List Int)) (lost : List Nat) (t : Nat) : Prop := ∀ w, Perp p n rows w → (∀ s < n, s ∉ lost → p ∣ w s) → p ∣ w t
/-- in the sums' space -/
def InSp (p : Int) (n : Nat) (rows : List (List Int)) (x : List Int) : Prop := ∀ w, Perp p n rows w → p ∣ dot (gt x) w n
structure Told (p : Int) (n : Nat) (rows : List (List Int)) (lost : List Nat) (t : Nat) (x : List Int) : Prop where
  ok : RowOk p n x
  sp : InSp p n rows x
  at_ : gt x t ≠ 0
  other : ∀ u ∈ lost, u ≠ t → gt x u = 0
def rowsAhead (p : Int) (n : Nat) (rows : List (List Int)) (a : List Nat) : List (List Int) := reducedBy p (cutRows rows (orderOf n a)) n
def spotsOf (L : Nat) (r : List Int) : List Nat := (List.range L).filter fun s => decide (0 < gt r s)
def aloneRows (p : Int) (n : Nat) (rows : List (List Int)) (lost : List Nat) : List (List Int) := (rowsAhead p n (reducedBy p rows n) lost).filter fun r => decide ((spotsOf lost.length r).length = 1)
def alonePairs (p : Int) (n : Nat) (rows : List (List Int)) (lost : List Nat) : List (Nat × List Int) := (aloneRows p n rows lost).map fun r => (lost.getD ((spotsOf lost.length r).headD 0) 0, putBack r (orderOf n lost))
structure AloneOk (p : Int) (n : Nat) (rows : List (List Int)) (lost : List Nat) (kvs : List (Nat × List Int)) : Prop where
  nd : (kvs.map (·.1)).Nodup
  mem : ∀ q ∈ kvs, q.1 ∈ lost ∧ Told p n rows lost q.1 q.2
  out : ∀ t ∈ lost, t ∉ kvs.map (·.1) → ∃ w, Perp p n rows w ∧ (∀ s < n, s ∉ lost → p ∣ w s) ∧ ¬ p ∣ w t
theorem spots_one {p : Int} {n L : Nat} {r : List Int} (hr : RowOk p n r) (hL : L ≤ n) (hlead : leadOf r < n) (h1 : gt r (leadOf r) = 1) : (spotsOf L r).length = 1 ↔ (leadOf r < L ∧ ∀ u < L, u ≠ leadOf r → gt r u = 0) := by
  constructor
  · intro h
    obtain ⟨t, ht⟩ : ∃ t, spotsOf L r = [t] := by
      match spotsOf L r, h with
      | [t], _ => exact ⟨t, rfl⟩
    have hm : ∀ u, u ∈ spotsOf L r ↔ u < L ∧ 0 < gt r u := fun u => by unfold spotsOf; rw [List.mem_filter, List.mem_range]; simp
    have h2 : ∀ u, (u < L ∧ 0 < gt r u) ↔ u = t := fun u => by rw [← hm, ht, List.mem_singleton]
    have ht2 := (h2 t).mpr rfl
    have hle : leadOf r ≤ t := by
      by_cases hlt : t < leadOf r
      · have := lead_zero hr hlt hlead; omega
      · omega
    have e : leadOf r = t := (h2 _).mp ⟨by omega, by rw [h1]; decide⟩
    refine ⟨by omega, fun u hu hne => ?_⟩
    have hb := hr.at (show u < n by omega)
    by_cases h0 : gt r u = 0
    · exact h0
    · exact absurd ((h2 u).mp ⟨hu, by omega⟩) (fun z => hne (z.trans e.symm))
  · rintro ⟨h2, h3⟩
    have e : spotsOf L r = [leadOf r] := by
      unfold spotsOf
      have nd : ((List.range L).filter fun s => decide (0 < gt r s)).Nodup := List.nodup_range.filter _
      have : ((List.range L).filter fun s => decide (0 < gt r s)).Perm [leadOf r] := (List.perm_ext_iff_of_nodup nd (by simp)).mpr fun a => by
        rw [List.mem_filter, List.mem_range, List.mem_singleton]
        constructor
        · rintro ⟨ha, hp⟩
          refine Classical.byContradiction fun hne => ?_
          have := h3 a ha hne
          simp [this] at hp
        · rintro rfl
          exact ⟨h2, by rw [h1]; decide⟩
      exact List.perm_singleton.mp this
    rw [e]; rfl
theorem spots_lead {p : Int} {n L : Nat} {r : List Int} (hr : RowOk p n r) (hL : L ≤ n) (hlead : leadOf r < n) (h1 : gt r (leadOf r) = 1) (h : (spotsOf L r).length = 1) : (spotsOf L r).headD 0 = leadOf r := by
  obtain ⟨t, ht⟩ : ∃ t, spotsOf L r = [t] := by
    match spotsOf L r, h with
    | [t], _ => exact ⟨t, rfl⟩
  have h2 := ((spots_one hr hL hlead h1).mp h).1
  have : leadOf r ∈ spotsOf L r := by unfold spotsOf; rw [List.mem_filter, List.mem_range]; exact ⟨h2, by rw [h1]; decide⟩
  rw [ht] at this ⊢
  exact (List.mem_singleton.mp this).symm
theorem alonePairs_ok {p : Int} {n : Nat} {rows : List (List Int)} {lost : List Nat} (hp : PrmI p) (h : ∀ r ∈ rows, RowOk p n r) (hl : LotOk n lost) : AloneOk p n rows lost (alonePairs p n rows lost) := by
  have nd := asc_nodup hl.1
  have ho := orderOf_ok nd hl.2
  have hL := lot_len hl
  have hR := (reducedBy_ok hp h n).2
  have hE : Ech p n n (rowsAhead p n (reducedBy p rows n) lost) := reducedBy_ech hp (cut_ok hR ho)
  have hperp : ∀ w, Perp p n (rowsAhead p n (reducedBy p rows n) lost) w ↔ Perp p n rows fun s => w ((orderOf n lost).idxOf s) := fun w => by
    unfold rowsAhead
    rw [reducedBy_perp hp (cut_ok hR ho), ← reducedBy_perp hp h]
    constructor
    · intro h; exact perp_back ho h
    · intro h
      rw [← perp_ord ho] at h
      exact (perp_congr fun i hi => by show w ((orderOf n lost).idxOf ((orderOf n lost).getD i 0)) = w i; rw [ho.idx_get hi]).mp h
  have hmem : ∀ r ∈ aloneRows p n rows lost, r ∈ rowsAhead p n (reducedBy p rows n) lost ∧ (spotsOf lost.length r).length = 1 := fun r hr => by
    have := List.mem_filter.mp hr
    exact ⟨this.1, by simpa using this.2⟩
  have hkey : ∀ r ∈ aloneRows p n rows lost, (spotsOf lost.length r).headD 0 = leadOf r ∧ leadOf r < lost.length := fun r hr => by
    obtain ⟨h1, h2⟩ := hmem r hr
    have hlr := hE.lead r h1
    exact ⟨spots_lead (hE.ok r h1) hL hlr.1 hlr.2 h2, ((spots_one (hE.ok r h1) hL hlr.1 hlr.2).mp h2).1⟩
  refine ⟨?_, fun q hq => ?_, fun t ht hno => ?_⟩
  · show (((aloneRows p n rows lost).map _).map _).Nodup
    rw [List.map_map]
    have pw : (aloneRows p n rows lost).Pairwise fun r r' => leadOf r < leadOf r' := (hE.pw.imp fun x => x.1).filter _
    refine List.pairwise_map.mpr (pw.imp_of_mem fun {a b} ha hb hab => ?_)
    show lost.getD _ 0 ≠ lost.getD _ 0
    rw [(hkey a ha).1, (hkey b hb).1, List.getD_eq_getElem?_getD, List.getD_eq_getElem?_getD, List.getElem?_eq_getElem (hkey a ha).2, List.getElem?_eq_getElem (hkey b hb).2]
    have := List.pairwise_iff_getElem.mp hl.1 _ _ (hkey a ha).2 (hkey b hb).2 hab
    show lost[leadOf a]'_ ≠ lost[leadOf b]'_
    omega
  · obtain ⟨r, hr, rfl⟩ := List.mem_map.mp hq
    obtain ⟨h1, h2⟩ := hmem r hr
    obtain ⟨h3, h4⟩ := hkey r hr
    have hlr := hE.lead r h1
    have hso := (spots_one (hE.ok r h1) hL hlr.1 hlr.2).mp h2
    have hg : lost.getD (leadOf r) 0 = lost[leadOf r] := by rw [List.getD_eq_getElem?_getD, List.getElem?_eq_getElem h4]; rfl
    show lost.getD _ 0 ∈ lost ∧ Told p n rows lost (lost.getD _ 0) (putBack r (orderOf n lost))
    rw [h3]
    have hin : lost.getD (leadOf r) 0 ∈ lost := by rw [hg]; exact List.getElem_mem h4
    refine ⟨hin, ⟨put_ok ho (hE.ok r h1), fun w hw => ?_, ?_, fun u hu hne => ?_⟩⟩
    · rw [dot_put ho (hE.ok r h1).1]
      have := (hperp fun i => w ((orderOf n lost).getD i 0)).mpr ((perp_congr fun i hi => by show w i = w ((orderOf n lost).getD ((orderOf n lost).idxOf i) 0); rw [(ho.idx hi).2]).mp hw)
      exact this r h1
    · have e2 : (orderOf n lost).idxOf (lost.getD (leadOf r) 0) = leadOf r := by rw [← ord_ahead (n := n) h4]; exact ho.idx_get (by omega)
      rw [gt_put (by rw [ho.len]; exact hl.2 _ hin), e2, hlr.2]; decide
    · obtain ⟨i, hi, rfl⟩ := List.getElem_of_mem hu
      have e1 : lost[i] = (orderOf n lost).getD i 0 := by rw [ord_ahead hi, List.getD_eq_getElem?_getD, List.getElem?_eq_getElem hi]; rfl
      rw [gt_put (by rw [ho.len]; exact hl.2 _ hu), e1, ho.idx_get (by omega)]
      refine hso.2 i hi fun z => hne ?_
      subst z; exact hg.symm
  · obtain ⟨i, hi, rfl⟩ := List.getElem_of_mem ht
    have e1 : lost[i] = (orderOf n lost).getD i 0 := by rw [ord_ahead hi, List.getD_eq_getElem?_getD, List.getElem?_eq_getElem hi]; rfl
    obtain ⟨w, hw, hz, hne⟩ := word_ahead hp hE hL hi (fun ⟨r, hr, hrt, hu⟩ => by
      have hlr := hE.lead r hr
      have hone := (spots_one (hE.ok r hr) hL hlr.1 hlr.2).mpr ⟨by omega, fun u hul hue => hu u hul (by omega)⟩
      have hra : r ∈ aloneRows p n rows lost := List.mem_filter.mpr ⟨hr, by simpa using hone⟩
      refine hno (List.mem_map.mpr ⟨_, List.mem_map_of_mem (f := fun r => (lost.getD ((spotsOf lost.length r).headD 0) 0, putBack r (orderOf n lost))) hra, ?_⟩)
      show lost.getD _ 0 = _
      rw [(hkey r hra).1, hrt, List.getD_eq_getElem?_getD, List.getElem?_eq_getElem hi]; rfl)
    refine ⟨fun s => w ((orderOf n lost).idxOf s), (hperp w).mp hw, fun s hs hsl => ?_, ?_⟩
    · refine hz _ ?_ (ho.idx hs).1
      refine Classical.byContradiction fun hc => hsl ?_
      have hc : (orderOf n lost).idxOf s < lost.length := by omega
      have e2 := (ho.idx hs).2
      rw [ord_ahead hc, List.getD_eq_getElem?_getD, List.getElem?_eq_getElem hc] at e2
      rw [← e2]; exact List.getElem_mem hc
    · show ¬ p ∣ w ((orderOf n lost).idxOf lost[i])
      rw [e1, ho.idx_get (by omega)]; exact hne
/-! ### the words within -/
def keptOfLot (n : Nat) (lost : List Nat) : List Nat := (List.range n).filter fun s => decide (s ∉ lost)
def wordsWithin (p : Int) (n : Nat) (rows : List (List Int)) (lost : List Nat) : List (List Int) :=
  ((rowsAhead p n (nullBy p rows n) (keptOfLot n lost)).filter fun r => !((r.take (keptOfLot n lost).length).any fun x => x != 0)).map fun r => putBack r (orderOf n (keptOfLot n lost))
theorem keptOfLot_ok {n : Nat} {lost : List Nat} : (keptOfLot n lost).Nodup ∧ ∀ x ∈ keptOfLot n lost, x < n := ⟨List.nodup_range.filter _, fun x hx => List.mem_range.mp (List.mem_filter.mp hx).1⟩
theorem wordsWithin_ok {p : Int} {n : Nat} {rows : List (List Int)} {lost : List Nat} (hp : PrmI p) (h : ∀ r ∈ rows, RowOk p n r) : (∀ r ∈ wordsWithin p n rows lost, RowOk p n r) ∧
    ∀ t < n, (∃ w, Perp p n rows w ∧ (∀ s < n, s ∉ lost → p ∣ w s) ∧ ¬ p ∣ w t) → ∃ r ∈ wordsWithin p n rows lost, 0 < gt r t := by
  obtain ⟨nd, hk⟩ := keptOfLot_ok (n := n) (lost := lost)
  have ho := orderOf_ok nd hk
  have hN := nullBy_ok hp h
  have hE : Ech p n n (rowsAhead p n (nullBy p rows n) (keptOfLot n lost)) := reducedBy_ech hp (cut_ok hN.ok ho)
  refine ⟨fun r hr => ?_, fun t ht ⟨w, hw, hz, hne⟩ => ?_⟩
  · obtain ⟨x, hx, rfl⟩ := List.mem_map.mp hr
    exact put_ok ho (hE.ok x (List.mem_filter.mp hx).1)
  · -- in the order's places
    have hx : ∀ v, Perp p n (rowsAhead p n (nullBy p rows n) (keptOfLot n lost)) v → p ∣ dot (fun i => w ((orderOf n (keptOfLot n lost)).getD i 0)) v n ∧ p ∣ dot v (fun i => w ((orderOf n (keptOfLot n lost)).getD i 0)) n := fun v hv => by
      unfold rowsAhead at hv
      rw [reducedBy_perp hp (cut_ok hN.ok ho)] at hv
      have h2 := (nullBy_perp hp h _).mp (perp_back ho hv) w hw
      have e : dot w (fun s => v ((orderOf n (keptOfLot n lost)).idxOf s)) n = dot (fun i => w ((orderOf n (keptOfLot n lost)).getD i 0)) v n := by
        have e1 := dot_ord ho ((List.range n).map w) (fun s => v ((orderOf n (keptOfLot n lost)).idxOf s))
        have e2 : dot (gt ((List.range n).map w)) (fun s => v ((orderOf n (keptOfLot n lost)).idxOf s)) n = dot w (fun s => v ((orderOf n (keptOfLot n lost)).idxOf s)) n := dot_congr n fun i hi => ⟨by
          show ((List.range n).map w).getD i 0 = _
          rw [List.getD_eq_getElem?_getD, List.getElem?_map, List.getElem?_range hi]; rfl, rfl⟩
        rw [← e2, ← e1]
        refine dot_congr n fun i hi => ⟨?_, ?_⟩
        · rw [gt_cut (by rw [ho.len]; exact hi)]
          show ((List.range n).map w).getD _ 0 = _
          rw [List.getD_eq_getElem?_getD, List.getElem?_map, List.getElem?_range (ho.get hi)]; rfl
        · rw [ho.idx_get hi]
      rw [e] at h2
      exact ⟨h2, by rw [dot_comm]; exact h2⟩
    have hti := ho.idx ht
    obtain ⟨r, hr, hg, hlead⟩ := span_row hp hE (fun v hv => (hx v hv).2) hti.1 (by show ¬ p ∣ w _; rw [hti.2]; exact hne)
    have hlr := hE.lead r hr
    have hK : (keptOfLot n lost).length ≤ leadOf r := by
      refine Classical.byContradiction fun hc => hlead (hz _ (ho.get hlr.1) ?_)
      have hc : leadOf r < (keptOfLot n lost).length := by omega
      rw [ord_ahead hc, List.getD_eq_getElem?_getD, List.getElem?_eq_getElem hc]
      have := (List.mem_filter.mp (List.getElem_mem hc)).2
      simpa using this
    refine ⟨putBack r (orderOf n (keptOfLot n lost)), List.mem_map_of_mem (f := fun r => putBack r (orderOf n (keptOfLot n lost))) (List.mem_filter.mpr ⟨hr, ?_⟩), ?_⟩
    · rw [Bool.not_eq_true', List.any_eq_false]
      intro x hx
      obtain ⟨i, hi, rfl⟩ := List.getElem_of_mem hx
      rw [List.getElem_take]
      have hi2 : i < (keptOfLot n lost).length ∧ i < r.length := by rw [List.length_take] at hi; omega
      have e : r[i]'hi2.2 = gt r i := by have := gt_get hi2.2; rw [List.getElem?_eq_getElem hi2.2] at this; exact Option.some.inj this
      rw [e, lead_zero (hE.ok r hr) (by omega) hlr.1]; simp
    · rw [gt_put (by rw [ho.len]; exact ht)]
      have := (hE.ok r hr).at hti.1
      omega
end Dt

/-! Rank: the law's own rank, and what it tells. -/
namespace Dt
def lessL (p : Int) (head : List Int) (spot : Nat) (row : List Int) : List Int := (row.zip head).map fun q => (q.1 * gt head spot - q.2 * gt row spot) % p
def someOf (rows : List (List Int)) (spot : Nat) : List Nat := (List.range rows.length).filter fun k => decide (gt (rows.getD k []) spot ≠ 0)
def rankStep (p : Int) (st : List (List Int) × Nat) (spot : Nat) : List (List Int) × Nat :=
  match someOf st.1 spot with
  | [] => st
  | k :: _ => ((st.1.eraseIdx k).map (lessL p (st.1.getD k []) spot), st.2 + 1)
def rankBy (p : Int) (rows : List (List Int)) (n : Nat) : List (List Int) × Nat := (List.range n).foldl (rankStep p) (rows, 0)
def rankOf (p : Int) (rows : List (List Int)) : Nat := (rankBy p rows (rows.headD []).length).2
theorem rankBy_succ (p : Int) (rows : List (List Int)) (n : Nat) : rankBy p rows (n + 1) = rankStep p (rankBy p rows n) n := by
  unfold rankBy; rw [List.range_succ, List.foldl_append]; rfl
theorem gt_lessL {p : Int} {n spot s : Nat} {head row : List Int} (h1 : row.length = n) (h2 : head.length = n) (hs : s < n) : gt (lessL p head spot row) s = (gt row s * gt head spot - gt head s * gt row spot) % p := by
  have e : (row.zip head)[s]? = some (gt row s, gt head s) := List.getElem?_zip_eq_some.mpr ⟨gt_get (by omega), gt_get (by omega)⟩
  unfold lessL
  show ((row.zip head).map _).getD s 0 = _
  rw [List.getD_eq_getElem?_getD, List.getElem?_map, e]
  rfl
theorem lessL_ok {p : Int} {n : Nat} {head : List Int} {spot : Nat} {row : List Int} (hp : PrmI p) (h1 : RowOk p n head) (h : RowOk p n row) : RowOk p n (lessL p head spot row) := by
  have := hp.two
  refine ⟨by unfold lessL; rw [List.length_map, List.length_zip, h.1, h1.1, Nat.min_self], fun x hx => ?_⟩
  unfold lessL at hx
  obtain ⟨q, _, rfl⟩ := List.mem_map.mp hx
  exact ⟨Int.emod_nonneg _ (by omega), Int.emod_lt_of_pos _ (by omega)⟩
theorem dot_lessL {p : Int} {n spot : Nat} {head row : List Int} (h1 : row.length = n) (h2 : head.length = n) (w : Nat → Int) : p ∣ dot (gt (lessL p head spot row)) w n - (gt head spot * dot (gt row) w n - gt row spot * dot (gt head) w n) := by
  have e : gt head spot * dot (gt row) w n - gt row spot * dot (gt head) w n = dot (fun i => gt head spot * gt row i + (- gt row spot) * gt head i) w n := by rw [dot_lin]; grind
  rw [e]
  refine dot_mod n fun i hi => ?_
  rw [gt_lessL h1 h2 hi]
  have := dvd_emod_sub p (gt row i * gt head spot - gt head i * gt row spot)
  have e2 : gt head spot * gt row i + -gt row spot * gt head i = gt row i * gt head spot - gt head i * gt row spot := by grind
  rw [e2]; exact this
theorem erase_or {α : Type} (d : α) : ∀ (l : List α) (k : Nat) (r : α), r ∈ l → r = l.getD k d ∨ r ∈ l.eraseIdx k
  | [], _, _, h => by cases h
  | a :: l, 0, r, h => by
    rcases List.mem_cons.mp h with rfl | h
    · exact .inl rfl
    · exact .inr h
  | a :: l, k + 1, r, h => by
    rcases List.mem_cons.mp h with rfl | h
    · exact .inr List.mem_cons_self
    · rcases erase_or d l k r h with e | e
      · exact .inl e
      · exact .inr (List.mem_cons_of_mem _ e)
/-- a word whose last place is s -/
def Last (p : Int) (n : Nat) (rows : List (List Int)) (s : Nat) : Prop := ∃ w, Perp p n rows w ∧ ¬ p ∣ w s ∧ ∀ t, s < t → t < n → p ∣ w t
/-- heads, newest first -/
structure Heads (p : Int) (n i : Nat) (hs : List (Nat × List Int)) : Prop where
  ok : ∀ q ∈ hs, RowOk p n q.2 ∧ q.1 < i ∧ gt q.2 q.1 ≠ 0 ∧ ∀ t < q.1, gt q.2 t = 0
  pw : hs.Pairwise fun q q' => q'.1 < q.1
theorem unit_row {p : Int} {n : Nat} {r : List Int} (hp : PrmI p) (hr : RowOk p n r) {s : Nat} (hs : s < n) (h : gt r s ≠ 0) : ¬ p ∣ gt r s := fun z => h (small_zero z (hr.at hs).1 (hr.at hs).2)
theorem back_sub {p : Int} {n : Nat} (hp : PrmI p) : ∀ (i : Nat) (hs : List (Nat × List Int)), i ≤ n → Heads p n i hs → ∀ w0 : Nat → Int, ∃ w : Nat → Int, (∀ s, s ∉ hs.map (·.1) → w s = w0 s) ∧ ∀ q ∈ hs, p ∣ dot (gt q.2) w n := fun i hs => by
  induction hs with
  | nil => intro _ _ w0; exact ⟨w0, fun _ _ => rfl, fun q hq => by cases hq⟩
  | cons q hs ih =>
    intro hi h w0
    obtain ⟨hok, hqi, hg, hz⟩ := h.ok q List.mem_cons_self
    have hpw := List.pairwise_cons.mp h.pw
    obtain ⟨c, hc⟩ := unit_of hp (unit_row hp hok (show q.1 < n by omega) hg)
    let w1 : Nat → Int := fun s => 1 * w0 s + (- c * dot (gt q.2) w0 n) * (if s = q.1 then 1 else 0)
    obtain ⟨w, h1, h2⟩ := ih hi ⟨fun x hx => h.ok x (List.mem_cons_of_mem _ hx), hpw.2⟩ w1
    refine ⟨w, fun s hs' => ?_, fun x hx => ?_⟩
    · rw [List.map_cons] at hs'
      rw [h1 s fun z => hs' (List.mem_cons_of_mem _ z)]
      show 1 * w0 s + _ * (if s = q.1 then 1 else 0) = w0 s
      rw [if_neg fun z => hs' (by rw [z]; exact List.mem_cons_self)]; simp
    · rcases List.mem_cons.mp hx with rfl | hx
      · have e : dot (gt x.2) w n = dot (gt x.2) w1 n := by
          -- they differ at smaller pivots alone, where x's row is nought
          have aux : ∀ m, m ≤ n → dot (gt x.2) w m = dot (gt x.2) w1 m := fun m => by
            induction m with
            | zero => intro _; rfl
            | succ m ihm =>
              intro hm
              show dot (gt x.2) w m + gt x.2 m * w m = dot (gt x.2) w1 m + gt x.2 m * w1 m
              rw [ihm (by omega)]
              by_cases hmm : m ∈ hs.map (·.1)
              · obtain ⟨y, hy, rfl⟩ := List.mem_map.mp hmm
                rw [hz y.1 (hpw.1 y hy)]; simp
              · rw [h1 m hmm]
          exact aux n (Nat.le_refl _)
        rw [e, dot_comm]
        show p ∣ dot (fun s => 1 * w0 s + (- c * dot (gt x.2) w0 n) * (if s = x.1 then 1 else 0)) (gt x.2) n
        rw [dot_lin, dot_comm w0]
        have e2 : dot (fun s => if s = x.1 then (1 : Int) else 0) (gt x.2) n = gt x.2 x.1 := by
          rw [dot_one (i := x.1) n (by omega) fun j hj hne => by simp [hne]]; simp
        rw [e2]
        have e3 : 1 * dot (gt x.2) w0 n + -c * dot (gt x.2) w0 n * gt x.2 x.1 = - (dot (gt x.2) w0 n * (gt x.2 x.1 * c - 1)) := by grind
        rw [e3]
        exact Int.dvd_neg.mpr (Int.dvd_mul_of_dvd_right hc)
      · exact h2 x hx
structure RkSt (p : Int) (n i : Nat) (rows : List (List Int)) (st : List (List Int) × Nat) (hs : List (Nat × List Int)) : Prop where
  l : ∀ r ∈ st.1, RowOk p n r ∧ ∀ t < i, gt r t = 0
  h : Heads p n i hs
  perp : ∀ w, Perp p n rows w ↔ (Perp p n st.1 w ∧ ∀ q ∈ hs, p ∣ dot (gt q.2) w n)
  c : st.2 = hs.length
  piv : ∀ s < i, (s ∈ hs.map (·.1) ↔ ¬ Last p n rows s)
theorem rankStep_ok {p : Int} {n i : Nat} {rows : List (List Int)} {st : List (List Int) × Nat} {hs : List (Nat × List Int)} (hp : PrmI p) (hi : i < n) (h : RkSt p n i rows st hs) : ∃ hs', RkSt p n (i + 1) rows (rankStep p st i) hs' := by
  unfold rankStep
  cases e : someOf st.1 i with
  | nil =>
    have hz : ∀ r ∈ st.1, gt r i = 0 := fun r hr => by
      obtain ⟨k, hk, rfl⟩ := List.getElem_of_mem hr
      have := List.filter_eq_nil_iff.mp e k (List.mem_range.mpr hk)
      rw [List.getD_eq_getElem?_getD, List.getElem?_eq_getElem hk] at this
      simpa using this
    refine ⟨hs, ⟨fun r hr => ⟨(h.l r hr).1, fun t ht => ?_⟩, ⟨fun q hq => ?_, h.h.pw⟩, h.perp, h.c, fun s hs' => ?_⟩⟩
    · by_cases e2 : t = i
      · rw [e2]; exact hz r hr
      · exact (h.l r hr).2 t (by omega)
    · have := h.h.ok q hq
      exact ⟨this.1, by omega, this.2.2⟩
    · by_cases e2 : s = i
      · subst e2
        refine ⟨fun z => ?_, fun z => absurd ?_ z⟩
        · obtain ⟨q, hq, rfl⟩ := List.mem_map.mp z
          have := (h.h.ok q hq).2.1; omega
        · obtain ⟨w, h1, h2⟩ := back_sub hp s hs (by omega) h.h fun t => if t = s then 1 else 0
          have hout : ∀ t, s ≤ t → w t = if t = s then 1 else 0 := fun t ht => h1 t fun z => by
            obtain ⟨q, hq, rfl⟩ := List.mem_map.mp z
            have := (h.h.ok q hq).2.1; omega
          refine ⟨w, (h.perp w).mpr ⟨fun r hr => dot_dvd n fun t ht => ?_, h2⟩, ?_, fun t ht _ => ?_⟩
          · by_cases h3 : s < t
            · rw [hout t (by omega), if_neg (by omega)]; simp
            · have : gt r t = 0 := by
                by_cases e3 : t = s
                · rw [e3]; exact hz r hr
                · exact (h.l r hr).2 t (by omega)
              rw [this]; simp
          · rw [hout s (Nat.le_refl _), if_pos rfl]
            intro z
            have := Int.le_of_dvd (by decide) z
            have := hp.two; omega
          · rw [hout t (by omega), if_neg (by omega)]; simp
      · exact h.piv s (by omega)
  | cons k ks =>
    have hk := List.mem_filter.mp (show k ∈ someOf st.1 i from e ▸ List.mem_cons_self)
    have hkl : k < st.1.length := List.mem_range.mp hk.1
    have hkn : gt (st.1.getD k []) i ≠ 0 := by simpa using hk.2
    have hkm : st.1.getD k [] ∈ st.1 := by
      rw [List.getD_eq_getElem?_getD, List.getElem?_eq_getElem hkl]; exact List.getElem_mem hkl
    obtain ⟨hok, hz⟩ := h.l _ hkm
    have hu := unit_row hp hok hi hkn
    have hsub : ∀ r ∈ st.1.eraseIdx k, r ∈ st.1 := fun r hr => (List.eraseIdx_sublist ..).subset hr
    refine ⟨(i, st.1.getD k []) :: hs, ⟨fun r hr => ?_, ⟨fun q hq => ?_, List.pairwise_cons.mpr ⟨fun q hq => (h.h.ok q hq).2.1, h.h.pw⟩⟩, fun w => ?_, ?_, fun s hs' => ?_⟩⟩
    · obtain ⟨x, hx, rfl⟩ := List.mem_map.mp hr
      obtain ⟨hxo, hxz⟩ := h.l x (hsub x hx)
      refine ⟨lessL_ok hp hok hxo, fun t ht => ?_⟩
      rw [gt_lessL hxo.1 hok.1 (by omega)]
      by_cases e2 : t = i
      · subst e2
        rw [Int.mul_comm, Int.sub_self]; rfl
      · rw [hxz t (by omega), hz t (by omega)]; simp
    · rcases List.mem_cons.mp hq with rfl | hq
      · exact ⟨hok, by show i < i + 1; omega, hkn, hz⟩
      · have := h.h.ok q hq
        exact ⟨this.1, by omega, this.2.2⟩
    · rw [h.perp w]
      constructor
      · rintro ⟨h1, h2⟩
        have hd := h1 _ hkm
        refine ⟨fun r hr => ?_, fun q hq => ?_⟩
        · obtain ⟨x, hx, rfl⟩ := List.mem_map.mp hr
          have hxo := (h.l x (hsub x hx)).1
          exact dvd_of_sub (dot_lessL hxo.1 hok.1 w) (Int.dvd_sub (Int.dvd_mul_of_dvd_right (h1 x (hsub x hx))) (Int.dvd_mul_of_dvd_right hd))
        · rcases List.mem_cons.mp hq with rfl | hq
          · exact hd
          · exact h2 q hq
      · rintro ⟨h1, h2⟩
        have hd : p ∣ dot (gt (st.1.getD k [])) w n := h2 (i, st.1.getD k []) List.mem_cons_self
        refine ⟨fun r hr => ?_, fun q hq => h2 q (List.mem_cons_of_mem _ hq)⟩
        rcases erase_or [] st.1 k r hr with e2 | e2
        · rw [e2]; exact hd
        · have hxo := (h.l r hr).1
          have h3 := dvd_of_sub' (dot_lessL (p := p) (spot := i) hxo.1 hok.1 w) (h1 _ (List.mem_map_of_mem e2))
          have h4 : p ∣ gt (st.1.getD k []) i * dot (gt r) w n := by
            have e3 : gt (st.1.getD k []) i * dot (gt r) w n = (gt (st.1.getD k []) i * dot (gt r) w n - gt r i * dot (gt (st.1.getD k [])) w n) + gt r i * dot (gt (st.1.getD k [])) w n := by omega
            rw [e3]; exact Int.dvd_add h3 (Int.dvd_mul_of_dvd_right hd)
          exact (prm_mul hp h4).elim (fun z => absurd z hu) id
    · show st.2 + 1 = _
      rw [h.c]; rfl
    · rw [List.map_cons]
      by_cases e2 : s = i
      · subst e2
        refine ⟨fun _ ⟨w, hw, hne, hlast⟩ => ?_, fun _ => List.mem_cons_self⟩
        have hd := ((h.perp w).mp hw).1 _ hkm
        have e3 := dot_one_mod (p := p) (f := gt (st.1.getD k [])) (g := w) hi fun j hj hjne => by
          by_cases h3 : j < s
          · rw [hz j h3]; simp
          · exact Int.dvd_mul_of_dvd_right (hlast j (by omega) hj)
        exact (prm_mul hp (dvd_of_sub' e3 hd)).elim hu hne
      · rw [← h.piv s (by omega), List.mem_cons]
        exact ⟨fun z => z.resolve_left e2, .inr⟩
theorem rankBy_ok {p : Int} {n : Nat} {rows : List (List Int)} (hp : PrmI p) (h : ∀ r ∈ rows, RowOk p n r) : ∀ i, i ≤ n → ∃ hs, RkSt p n i rows (rankBy p rows i) hs
  | 0, _ => ⟨[], ⟨fun r hr => ⟨h r hr, fun t ht => by omega⟩, ⟨fun q hq => (nomatch hq), .nil⟩, fun w => ⟨fun h => ⟨h, fun q hq => (nomatch hq)⟩, fun h => h.1⟩, rfl, fun s hs => by omega⟩⟩
  | i + 1, hi => by
    obtain ⟨hs, h1⟩ := rankBy_ok hp h i (by omega)
    rw [rankBy_succ]; exact rankStep_ok hp (by omega) h1
theorem rankOf_ok {p : Int} {n : Nat} {rows : List (List Int)} (hp : PrmI p) (h : ∀ r ∈ rows, RowOk p n r) : ∃ P : List Nat, P.Nodup ∧ (∀ s, s ∈ P ↔ s < n ∧ ¬ Last p n rows s) ∧ rankOf p rows = P.length := by
  cases rows with
  | nil =>
    refine ⟨[], List.nodup_nil, fun s => ⟨fun z => by (cases z), fun ⟨hs, z⟩ => absurd ⟨fun t => if t = s then 1 else 0, fun r hr => (nomatch hr), ?_, fun t ht _ => ?_⟩ z⟩, rfl⟩
    · show ¬ p ∣ if s = s then 1 else 0
      rw [if_pos rfl]
      intro z
      have := Int.le_of_dvd (by decide) z
      have := hp.two; omega
    · show p ∣ if t = s then 1 else 0
      rw [if_neg (by omega)]; simp
  | cons r rs =>
    have hl : (List.headD (r :: rs) []).length = n := (h r List.mem_cons_self).1
    obtain ⟨hs, h1⟩ := rankBy_ok hp h n (Nat.le_refl _)
    refine ⟨hs.map (·.1), List.pairwise_map.mpr (h1.h.pw.imp fun x => by omega), fun s => ?_, ?_⟩
    · constructor
      · intro z
        obtain ⟨q, hq, e⟩ := List.mem_map.mp z
        have hlt : s < n := by rw [← e]; exact (h1.h.ok q hq).2.1
        exact ⟨hlt, (h1.piv s hlt).mp z⟩
      · intro ⟨hlt, z⟩; exact (h1.piv s hlt).mpr z
    · unfold rankOf
      rw [hl, h1.c, List.length_map]
theorem sub_len {α : Type} [BEq α] [LawfulBEq α] : ∀ {A B : List α}, A.Nodup → (∀ x ∈ A, x ∈ B) → A.length ≤ B.length
  | [], _, _, _ => Nat.zero_le _
  | a :: A, B, nd, h => by
    have nd' := List.nodup_cons.mp nd
    have ih := sub_len (B := B.erase a) nd'.2 fun x hx => (List.mem_erase_of_ne (show x ≠ a from fun z => nd'.1 (by rw [← z]; exact hx))).mpr (h x (List.mem_cons_of_mem _ hx))
    rw [List.length_erase_of_mem (h a List.mem_cons_self)] at ih
    have : 0 < B.length := List.length_pos_of_mem (h a List.mem_cons_self)
    rw [List.length_cons]; omega
/-- the same orthogonals: the same rank -/
theorem rank_same {p : Int} {n : Nat} {rows rows' : List (List Int)} (hp : PrmI p) (h : ∀ r ∈ rows, RowOk p n r) (h' : ∀ r ∈ rows', RowOk p n r) (e : ∀ w, Perp p n rows w ↔ Perp p n rows' w) : rankOf p rows = rankOf p rows' := by
  obtain ⟨P, nd, hP, e1⟩ := rankOf_ok hp h
  obtain ⟨P', nd', hP', e2⟩ := rankOf_ok hp h'
  have hl : ∀ s, Last p n rows s ↔ Last p n rows' s := fun s => by unfold Last; simp only [e]
  rw [e1, e2]
  exact Nat.le_antisymm (sub_len nd fun x hx => (hP' x).mpr (by rw [← hl]; exact (hP x).mp hx)) (sub_len nd' fun x hx => (hP x).mpr (by rw [hl]; exact (hP' x).mp hx))
/-! ### cut to a lot -/
def LastS (p : Int) (n : Nat) (rows : List (List Int)) (S : List Nat) (s : Nat) : Prop := ∃ w, Perp p n rows w ∧ (∀ t < n, t ∉ S → p ∣ w t) ∧ ¬ p ∣ w s ∧ ∀ t ∈ S, s < t → p ∣ w t
theorem lot_idx {n : Nat} {S : List Nat} (hS : LotOk n S) {i : Nat} (hi : i < S.length) : S.getD i 0 = S[i] ∧ S.idxOf S[i] = i ∧ S[i] < n := by
  refine ⟨by rw [List.getD_eq_getElem?_getD, List.getElem?_eq_getElem hi]; rfl, (asc_nodup hS.1).idxOf_getElem i hi, hS.2 _ (List.getElem_mem hi)⟩
theorem last_cut {p : Int} {n : Nat} {rows : List (List Int)} {S : List Nat} (hS : LotOk n S) {i : Nat} (hi : i < S.length) : Last p S.length (cutRows rows S) i ↔ LastS p n rows S S[i] := by
  have nd := asc_nodup hS.1
  have pw := List.pairwise_iff_getElem.mp hS.1
  constructor
  · rintro ⟨w, hw, hne, hlast⟩
    refine ⟨fun s => if s ∈ S then w (S.idxOf s) else 0, fun r hr => ?_, fun t ht hno => by show p ∣ if t ∈ S then w (S.idxOf t) else 0; rw [if_neg hno]; simp, ?_, fun t ht hlt => ?_⟩
    · have e := dot_cut (p := p) (r := r) (w := fun s => if s ∈ S then w (S.idxOf s) else 0) nd hS.2 fun s hs hno => by show p ∣ if s ∈ S then w (S.idxOf s) else 0; rw [if_neg hno]; simp
      refine dvd_of_sub e ?_
      rw [dot_congr (g' := w) S.length fun j hj => ⟨rfl, by
        obtain ⟨e1, e2, e3⟩ := lot_idx hS hj
        show (if S.getD j 0 ∈ S then w (S.idxOf (S.getD j 0)) else 0) = w j
        rw [e1, if_pos (List.getElem_mem hj), e2]⟩]
      exact hw _ (List.mem_map_of_mem hr)
    · show ¬ p ∣ if S[i] ∈ S then w (S.idxOf S[i]) else 0
      rw [if_pos (List.getElem_mem hi), (lot_idx hS hi).2.1]; exact hne
    · obtain ⟨j, hj, rfl⟩ := List.getElem_of_mem ht
      show p ∣ if S[j] ∈ S then w (S.idxOf S[j]) else 0
      rw [if_pos ht, (lot_idx hS hj).2.1]
      refine hlast j ?_ hj
      refine Classical.byContradiction fun hc => ?_
      by_cases e : i = j
      · subst e; omega
      · have := pw j i hj hi (by omega); omega
  · rintro ⟨w, hw, hz, hne, hlast⟩
    refine ⟨fun j => w (S.getD j 0), fun r hr => ?_, by show ¬ p ∣ w (S.getD i 0); rw [(lot_idx hS hi).1]; exact hne, fun j hij hj => ?_⟩
    · obtain ⟨x, hx, rfl⟩ := List.mem_map.mp hr
      exact dvd_of_sub' (dot_cut nd hS.2 hz) (hw x hx)
    · show p ∣ w (S.getD j 0)
      rw [(lot_idx hS hj).1]
      exact hlast _ (List.getElem_mem hj) (pw i j hi hj hij)
theorem cut_rows_ok {p : Int} {n : Nat} {rows : List (List Int)} {S : List Nat} (h : ∀ r ∈ rows, RowOk p n r) (hS : ∀ x ∈ S, x < n) : ∀ r ∈ cutRows rows S, RowOk p S.length r := fun r hr => by
  obtain ⟨x, hx, rfl⟩ := List.mem_map.mp hr
  refine ⟨by rw [List.length_map], fun y hy => ?_⟩
  obtain ⟨s, hs, rfl⟩ := List.mem_map.mp hy
  exact (h x hx).at (hS s hs)
theorem rank_cut {p : Int} {n : Nat} {rows : List (List Int)} {S : List Nat} (hp : PrmI p) (h : ∀ r ∈ rows, RowOk p n r) (hS : LotOk n S) : ∃ P : List Nat, P.Nodup ∧ (∀ s, s ∈ P ↔ s ∈ S ∧ ¬ LastS p n rows S s) ∧ rankOf p (cutRows rows S) = P.length := by
  obtain ⟨P, nd, hP, e⟩ := rankOf_ok hp (cut_rows_ok h hS.2)
  have hlt : ∀ i ∈ P, i < S.length := fun i hi => ((hP i).mp hi).1
  refine ⟨P.map fun i => S.getD i 0, List.pairwise_map.mpr (nd.imp_of_mem fun {a b} ha hb hab => ?_), fun s => ?_, by rw [e, List.length_map]⟩
  · rw [(lot_idx hS (hlt a ha)).1, (lot_idx hS (hlt b hb)).1]
    intro z
    have h1 := (lot_idx hS (hlt a ha)).2.1
    rw [z, (lot_idx hS (hlt b hb)).2.1] at h1
    exact hab h1.symm
  · constructor
    · intro hs
      obtain ⟨i, hi, rfl⟩ := List.mem_map.mp hs
      have hil := hlt i hi
      rw [(lot_idx hS hil).1]
      exact ⟨List.getElem_mem hil, by rw [← last_cut hS hil]; exact ((hP i).mp hi).2⟩
    · rintro ⟨hs, hno⟩
      obtain ⟨i, hi, rfl⟩ := List.getElem_of_mem hs
      refine List.mem_map.mpr ⟨i, (hP i).mpr ⟨hi, by rw [last_cut hS hi]; exact hno⟩, (lot_idx hS hi).1⟩
theorem exists_min {P : Nat → Prop} {n : Nat} (h : P n) : ∃ m, P m ∧ ∀ k < m, ¬ P k := by
  induction n using Nat.strongRecOn with
  | ind n ih =>
    by_cases hc : ∃ k < n, P k
    · obtain ⟨k, hk, hP⟩ := hc; exact ih k hk hP
    · exact ⟨n, h, fun k hk hP => hc ⟨k, hk, hP⟩⟩
/-- the law's question by ranks: known -/
theorem rank_known {p : Int} {n : Nat} {rows : List (List Int)} {S : List Nat} (hp : PrmI p) (h : ∀ r ∈ rows, RowOk p n r) (hS : LotOk n S) {t : Nat} (ht : t ∈ S) :
    rankOf p (cutRows rows (S.filter fun s => decide (s ≠ t))) < rankOf p (cutRows rows S) ↔ Known p n rows S t := by
  have hN : LotOk n (S.filter fun s => decide (s ≠ t)) := ⟨hS.1.filter _, fun x hx => hS.2 x (List.mem_filter.mp hx).1⟩
  have hmem : ∀ s, s ∈ S.filter (fun s => decide (s ≠ t)) ↔ s ∈ S ∧ s ≠ t := fun s => by rw [List.mem_filter]; simp
  obtain ⟨P, nd, hP, e⟩ := rank_cut hp h hS
  obtain ⟨P', nd', hP', e'⟩ := rank_cut hp h hN
  have up : ∀ s, LastS p n rows (S.filter fun s => decide (s ≠ t)) s → s ≠ t → s ∈ S → LastS p n rows S s := fun s ⟨w, hw, hz, hne, hl⟩ hst _ => by
    refine ⟨w, hw, fun u hu hno => hz u hu fun z => hno ((hmem u).mp z).1, hne, fun u hu hlt => ?_⟩
    by_cases e : u = t
    · rw [e]; exact hz t (hS.2 t ht) fun z => ((hmem t).mp z).2 rfl
    · exact hl u ((hmem u).mpr ⟨hu, e⟩) hlt
  rw [e, e']
  constructor
  · intro hlt
    refine Classical.byContradiction fun hno => ?_
    -- the least last place of a word that differs at t
    obtain ⟨w0, hw0⟩ : ∃ w, ¬ (Perp p n rows w → (∀ s < n, s ∉ S → p ∣ w s) → p ∣ w t) := Classical.byContradiction fun z => hno fun w => Classical.byContradiction fun z2 => z ⟨w, z2⟩
    have hw0' : Perp p n rows w0 ∧ (∀ s < n, s ∉ S → p ∣ w0 s) ∧ ¬ p ∣ w0 t := by
      refine ⟨?_, ?_, fun z => hw0 fun _ _ => z⟩
      · exact Classical.byContradiction fun z => hw0 fun a => absurd a z
      · exact Classical.byContradiction fun z => hw0 fun _ a => absurd a z
    obtain ⟨b, ⟨w, hw, hz, hne, hl⟩, hmin⟩ := exists_min (P := fun b => ∃ w, Perp p n rows w ∧ (∀ s < n, s ∉ S → p ∣ w s) ∧ ¬ p ∣ w t ∧ ∀ s ∈ S, b ≤ s → p ∣ w s) (n := n) ⟨w0, hw0'.1, hw0'.2.1, hw0'.2.2, fun s hs hb => by have := hS.2 s hs; omega⟩
    have htb : t < b := Classical.byContradiction fun z => hne (hl t ht (by omega))
    have hj : b - 1 ∈ S ∧ ¬ p ∣ w (b - 1) := by
      refine ⟨Classical.byContradiction fun z => ?_, fun z => ?_⟩
      · exact hmin (b - 1) (by omega) ⟨w, hw, hz, hne, fun s hs hb => hl s hs (by
          by_cases e : s = b - 1
          · exact absurd (e ▸ hs) z
          · omega)⟩
      · exact hmin (b - 1) (by omega) ⟨w, hw, hz, hne, fun s hs hb => by
          by_cases e : s = b - 1
          · rw [e]; exact z
          · exact hl s hs (by omega)⟩
    have hL : LastS p n rows S (b - 1) := ⟨w, hw, hz, hj.2, fun s hs hb => hl s hs (by omega)⟩
    have hjP : b - 1 ∉ P := fun z => ((hP _).mp z).2 hL
    by_cases e : b - 1 = t
    · have : P.length ≤ P'.length := sub_len nd fun x hx => by
        have hx' := (hP x).mp hx
        have hxt : x ≠ t := fun z => hjP (by rw [e, ← z]; exact hx)
        exact (hP' x).mpr ⟨(hmem x).mpr ⟨hx'.1, hxt⟩, fun z => hx'.2 (up x z hxt hx'.1)⟩
      omega
    · have hjn : b - 1 ∈ S.filter fun s => decide (s ≠ t) := (hmem _).mpr ⟨hj.1, e⟩
      have hjP' : b - 1 ∈ P' := (hP' _).mpr ⟨hjn, fun ⟨w', hw', hz', hne', hl'⟩ => by
        -- lessen w by w': its last place falls
        obtain ⟨c, hc⟩ := unit_of hp hne'
        refine hmin (b - 1) (by omega) ⟨fun s => 1 * w s + (- (c * w (b - 1))) * w' s, fun r hr => ?_, fun s hs hno => ?_, ?_, fun s hs hbs => ?_⟩
        · rw [dot_comm, dot_lin, dot_comm w, dot_comm w']
          exact Int.dvd_add (Int.dvd_mul_of_dvd_right (hw r hr)) (Int.dvd_mul_of_dvd_right (hw' r hr))
        · exact Int.dvd_add (Int.dvd_mul_of_dvd_right (hz s hs hno)) (Int.dvd_mul_of_dvd_right (hz' s hs fun z => hno ((hmem s).mp z).1))
        · intro z
          have hwt : p ∣ w' t := hz' t (hS.2 t ht) fun z => ((hmem t).mp z).2 rfl
          refine hne ?_
          have e2 : w t = (1 * w t + (- (c * w (b - 1))) * w' t) + (c * w (b - 1)) * w' t := by grind
          rw [e2]; exact Int.dvd_add z (Int.dvd_mul_of_dvd_right hwt)
        · by_cases e3 : s = b - 1
          · subst e3
            have e2 : 1 * w (b - 1) + (- (c * w (b - 1))) * w' (b - 1) = - (w (b - 1) * (w' (b - 1) * c - 1)) := by grind
            show p ∣ 1 * w (b - 1) + (- (c * w (b - 1))) * w' (b - 1)
            rw [e2]; exact Int.dvd_neg.mpr (Int.dvd_mul_of_dvd_right hc)
          · have h3 : p ∣ w' s := by
              by_cases e4 : s = t
              · omega
              · exact hl' s ((hmem s).mpr ⟨hs, e4⟩) (by omega)
            exact Int.dvd_add (Int.dvd_mul_of_dvd_right (hl s hs (by omega))) (Int.dvd_mul_of_dvd_right h3)⟩
      have : P.length ≤ (t :: P'.erase (b - 1)).length := sub_len nd fun x hx => by
        have hx' := (hP x).mp hx
        by_cases hxt : x = t
        · rw [hxt]; exact List.mem_cons_self
        · refine List.mem_cons_of_mem _ ((List.mem_erase_of_ne (show x ≠ b - 1 from fun z => hjP (by rw [← z]; exact hx))).mpr ((hP' x).mpr ⟨(hmem x).mpr ⟨hx'.1, hxt⟩, fun z => hx'.2 (up x z hxt hx'.1)⟩))
      rw [List.length_cons, List.length_erase_of_mem hjP'] at this
      have : 0 < P'.length := List.length_pos_of_mem hjP'
      omega
  · intro hk
    have htP : t ∈ P := (hP t).mpr ⟨ht, fun ⟨w, hw, hz, hne, _⟩ => hne (hk w hw hz)⟩
    have : (t :: P').length ≤ P.length := sub_len (List.nodup_cons.mpr ⟨fun z => ((hmem t).mp ((hP' t).mp z).1).2 rfl, nd'⟩) fun x hx => by
      rcases List.mem_cons.mp hx with rfl | hx
      · exact htP
      · have hx' := (hP' x).mp hx
        refine (hP x).mpr ⟨((hmem x).mp hx'.1).1, fun ⟨w, hw, hz, hne, hl⟩ => hx'.2 ⟨w, hw, fun s hs hno => ?_, hne, fun s hs hlt => hl s ((hmem s).mp hs).1 hlt⟩⟩
        by_cases e : s = t
        · rw [e]; exact hk w hw hz
        · exact hz s hs fun z => hno ((hmem s).mpr ⟨z, e⟩)
    rw [List.length_cons] at this
    omega
end Dt

/-! Going: the goings, and the greatest stuck lot. -/
namespace Dt
def onlyOf (pl left : List Nat) : List Nat := pl.filter fun a => decide (a ∈ left)
def aloneOf (G : List (List Nat)) (left : List Nat) : List Nat := G.flatMap fun pl => if (onlyOf pl left).length = 1 then onlyOf pl left else []
def mendedOf (G : List (List Nat)) (left : List Nat) : List Nat := left.filter fun a => decide (a ∈ aloneOf G left)
def lessOf (left m : List Nat) : List Nat := left.filter fun a => decide (a ∉ m)
def goRun (G : List (List Nat)) : Nat → List Nat → List (List Nat) × List Nat
  | 0, left => ([], left)
  | f + 1, left => if mendedOf G left = [] then ([], left) else (mendedOf G left :: (goRun G f (lessOf left (mendedOf G left))).1, (goRun G f (lessOf left (mendedOf G left))).2)
def goBy (G : List (List Nat)) (left : List Nat) : List (List Nat) × List Nat := goRun G left.length left
theorem mem_only {pl left : List Nat} {a : Nat} : a ∈ onlyOf pl left ↔ a ∈ pl ∧ a ∈ left := by unfold onlyOf; rw [List.mem_filter]; simp
theorem mem_alone {G : List (List Nat)} {left : List Nat} {a : Nat} : a ∈ aloneOf G left ↔ ∃ pl ∈ G, onlyOf pl left = [a] := by
  unfold aloneOf
  rw [List.mem_flatMap]
  constructor
  · rintro ⟨pl, h1, h2⟩
    by_cases e : (onlyOf pl left).length = 1
    · rw [if_pos e] at h2
      refine ⟨pl, h1, ?_⟩
      match hh : onlyOf pl left, e, h2 with
      | [b], _, h2 => rw [List.mem_singleton.mp h2]
    · rw [if_neg e] at h2; cases h2
  · rintro ⟨pl, h1, h2⟩
    exact ⟨pl, h1, by rw [h2]; simp⟩
theorem alone_sub {G : List (List Nat)} {left : List Nat} {a : Nat} (h : a ∈ aloneOf G left) : a ∈ left := by
  obtain ⟨pl, _, e⟩ := mem_alone.mp h
  exact (mem_only.mp (show a ∈ onlyOf pl left by rw [e]; exact List.mem_cons_self)).2
theorem mem_mended {G : List (List Nat)} {left : List Nat} {a : Nat} : a ∈ mendedOf G left ↔ a ∈ aloneOf G left := by
  unfold mendedOf; rw [List.mem_filter]
  exact ⟨fun h => by simpa using h.2, fun h => ⟨alone_sub h, by simpa using h⟩⟩
theorem mem_less {left m : List Nat} {a : Nat} : a ∈ lessOf left m ↔ a ∈ left ∧ a ∉ m := by unfold lessOf; rw [List.mem_filter]; simp
theorem mended_nil {G : List (List Nat)} {left : List Nat} : mendedOf G left = [] ↔ aloneOf G left = [] := by
  constructor
  · intro h
    refine List.eq_nil_iff_forall_not_mem.mpr fun a ha => ?_
    have := mem_mended.mpr ha
    rw [h] at this; cases this
  · intro h
    refine List.eq_nil_iff_forall_not_mem.mpr fun a ha => ?_
    have := mem_mended.mp ha
    rw [h] at this; cases this
theorem less_alone (G : List (List Nat)) (left : List Nat) : (left.filter fun a => decide (a ∉ aloneOf G left)) = lessOf left (mendedOf G left) := by
  unfold lessOf
  refine List.filter_congr fun a _ => ?_
  simp only [mem_mended]
theorem less_len {left m : List Nat} (hm : ∀ a ∈ m, a ∈ left) (hne : m ≠ []) : (lessOf left m).length < left.length := by
  obtain ⟨a, ha⟩ := List.exists_mem_of_ne_nil m hne
  unfold lessOf
  refine List.length_filter_lt_length_iff_exists.mpr ⟨a, hm a ha, by simpa using ha⟩
theorem mended_less {G : List (List Nat)} {left : List Nat} (h : mendedOf G left ≠ []) : (lessOf left (mendedOf G left)).length < left.length := less_len (fun a ha => (List.mem_filter.mp ha).1) h
theorem goRun_fuel (G : List (List Nat)) : ∀ (f g : Nat) (left : List Nat), left.length ≤ f → left.length ≤ g → goRun G f left = goRun G g left
  | 0, 0, _, _, _ => rfl
  | 0, g + 1, left, h, _ => by
    have : left = [] := List.length_eq_zero_iff.mp (by omega)
    subst this; rfl
  | f + 1, 0, left, _, h => by
    have : left = [] := List.length_eq_zero_iff.mp (by omega)
    subst this; rfl
  | f + 1, g + 1, left, h1, h2 => by
    show (if _ then _ else _) = (if _ then _ else _)
    by_cases e : mendedOf G left = []
    · rw [if_pos e, if_pos e]
    · have := mended_less e
      rw [if_neg e, if_neg e, goRun_fuel G f g _ (by omega) (by omega)]
theorem goBy_stop {G : List (List Nat)} {left : List Nat} (h : mendedOf G left = []) : goBy G left = ([], left) := by
  unfold goBy
  cases e : left.length with
  | zero => rfl
  | succ m => show (if _ then _ else _) = _; rw [if_pos h]
theorem goBy_go {G : List (List Nat)} {left : List Nat} (h : mendedOf G left ≠ []) : goBy G left = (mendedOf G left :: (goBy G (lessOf left (mendedOf G left))).1, (goBy G (lessOf left (mendedOf G left))).2) := by
  have hl := mended_less h
  unfold goBy
  cases e : left.length with
  | zero => omega
  | succ m =>
    show (if _ then _ else _) = _
    rw [if_neg h, goRun_fuel G m _ _ (by omega) (Nat.le_refl _)]
/-! ### by groups with the same members -/
theorem alone_congr {G G' : List (List Nat)} (h : ∀ pl, pl ∈ G ↔ pl ∈ G') (left : List Nat) : mendedOf G left = mendedOf G' left := by
  unfold mendedOf
  refine List.filter_congr fun a _ => ?_
  have : a ∈ aloneOf G left ↔ a ∈ aloneOf G' left := by rw [mem_alone, mem_alone]; simp only [h]
  simp only [this]
theorem goRun_congr {G G' : List (List Nat)} (h : ∀ pl, pl ∈ G ↔ pl ∈ G') : ∀ (f : Nat) (left : List Nat), goRun G f left = goRun G' f left
  | 0, _ => rfl
  | f + 1, left => by
    show (if _ then _ else _) = (if _ then _ else _)
    rw [alone_congr h, goRun_congr h f]
theorem goBy_congr {G G' : List (List Nat)} (h : ∀ pl, pl ∈ G ↔ pl ∈ G') (left : List Nat) : goBy G left = goBy G' left := goRun_congr h _ _
/-! ### stuck lots -/
def Stuck (G : List (List Nat)) (S : List Nat) : Prop := ∀ pl ∈ G, (onlyOf pl S).length ≠ 1
theorem stuck_iff {G : List (List Nat)} {S : List Nat} : Stuck G S ↔ aloneOf G S = [] := by
  constructor
  · intro h
    refine List.eq_nil_iff_forall_not_mem.mpr fun a ha => ?_
    obtain ⟨pl, h1, h2⟩ := mem_alone.mp ha
    exact h pl h1 (by rw [h2]; rfl)
  · intro h pl hpl e
    match hh : onlyOf pl S, e with
    | [b], _ =>
      have : b ∈ aloneOf G S := mem_alone.mpr ⟨pl, hpl, hh⟩
      rw [h] at this; cases this
/-- a stuck lot within keeps out of what is alone -/
theorem stuck_out {G : List (List Nat)} {S left : List Nat} (hS : Stuck G S) (hsub : ∀ x ∈ S, x ∈ left) {a : Nat} (ha : a ∈ aloneOf G left) : a ∉ S := fun haS => by
  obtain ⟨pl, h1, h2⟩ := mem_alone.mp ha
  refine hS pl h1 ?_
  have e : onlyOf pl S = (onlyOf pl left).filter fun x => decide (x ∈ S) := by
    unfold onlyOf
    rw [List.filter_filter]
    refine List.filter_congr fun x _ => ?_
    by_cases hx : x ∈ S
    · simp [hx, hsub x hx]
    · simp [hx]
  rw [e, h2]
  simp [haS]
structure Fin_ (G : List (List Nat)) (away L : List Nat) : Prop where
  sub : ∀ x ∈ L, x ∈ away
  asc : L.Pairwise (· < ·)
  stuck : Stuck G L
  top : ∀ S : List Nat, (∀ x ∈ S, x ∈ away) → Stuck G S → ∀ x ∈ S, x ∈ L
theorem asc_ext : ∀ {l m : List Nat}, l.Pairwise (· < ·) → m.Pairwise (· < ·) → (∀ x, x ∈ l ↔ x ∈ m) → l = m
  | [], [], _, _, _ => rfl
  | [], b :: m, _, _, h => absurd ((h b).mpr List.mem_cons_self) (by simp)
  | a :: l, [], _, _, h => absurd ((h a).mp List.mem_cons_self) (by simp)
  | a :: l, b :: m, hl, hm, h => by
    have hl' := List.pairwise_cons.mp hl
    have hm' := List.pairwise_cons.mp hm
    have e : a = b := by
      rcases List.mem_cons.mp ((h a).mp List.mem_cons_self) with e | e
      · exact e
      · rcases List.mem_cons.mp ((h b).mpr List.mem_cons_self) with e2 | e2
        · exact e2.symm
        · have := hm'.1 a e; have := hl'.1 b e2; omega
    subst e
    rw [asc_ext hl'.2 hm'.2 fun x => ?_]
    constructor
    · intro hx
      rcases List.mem_cons.mp ((h x).mp (List.mem_cons_of_mem _ hx)) with e | e
      · have := hl'.1 x hx; omega
      · exact e
    · intro hx
      rcases List.mem_cons.mp ((h x).mpr (List.mem_cons_of_mem _ hx)) with e | e
      · have := hm'.1 x hx; omega
      · exact e
theorem Fin_.uniq {G : List (List Nat)} {away L L' : List Nat} (h : Fin_ G away L) (h' : Fin_ G away L') : L = L' :=
  asc_ext h.asc h'.asc fun x => ⟨fun hx => h'.top L h.sub h.stuck x hx, fun hx => h.top L' h'.sub h'.stuck x hx⟩
theorem Fin_.stop {G : List (List Nat)} {left : List Nat} (ha : left.Pairwise (· < ·)) (h : aloneOf G left = []) : Fin_ G left left := ⟨fun _ hx => hx, ha, stuck_iff.mpr h, fun _ hs _ x hx => hs x hx⟩
/-- some of the alone ones gone: the same end -/
theorem Fin_.go {G : List (List Nat)} {left left' L : List Nat} (hsub : ∀ x ∈ left', x ∈ left) (hout : ∀ x ∈ left, x ∉ left' → x ∈ aloneOf G left) (h : Fin_ G left' L) : Fin_ G left L :=
  ⟨fun x hx => hsub x (h.sub x hx), h.asc, h.stuck, fun S hS hst x hx => h.top S (fun y hy => Classical.byContradiction fun hn => stuck_out hst hS (hout y (hS y hy) hn) hy) hst x hx⟩
theorem goRun_fin (G : List (List Nat)) : ∀ (f : Nat) (left : List Nat), left.Pairwise (· < ·) → left.length ≤ f → Fin_ G left (goRun G f left).2
  | 0, left, ha, h => by
    have : left = [] := List.length_eq_zero_iff.mp (by omega)
    subst this
    exact Fin_.stop ha (List.eq_nil_iff_forall_not_mem.mpr fun a ha => by have := alone_sub ha; cases this)
  | f + 1, left, ha, h => by
    show Fin_ G left (if _ then _ else _ : List (List Nat) × List Nat).2
    by_cases e : mendedOf G left = []
    · rw [if_pos e]; exact Fin_.stop ha (mended_nil.mp e)
    · have := mended_less e
      rw [if_neg e]
      refine Fin_.go (fun x hx => (mem_less.mp hx).1) (fun x hx hn => ?_) (goRun_fin G f _ (ha.filter _) (by omega))
      exact mem_mended.mp (Classical.byContradiction fun z => hn (mem_less.mpr ⟨hx, z⟩))
theorem goBy_fin {G : List (List Nat)} {left : List Nat} (ha : left.Pairwise (· < ·)) : Fin_ G left (goBy G left).2 := goRun_fin G _ left ha (Nat.le_refl _)
/-- what is left is stuck: no going more -/
theorem goBy_left {G : List (List Nat)} {left : List Nat} (ha : left.Pairwise (· < ·)) : goBy G (goBy G left).2 = ([], (goBy G left).2) := goBy_stop (mended_nil.mpr (stuck_iff.mp (goBy_fin ha).stuck))
theorem goBy_less {G : List (List Nat)} {late away : List Nat} (hl : late.Pairwise (· < ·)) (ha : away.Pairwise (· < ·)) (h : ∀ x ∈ late, x ∈ away) : ∀ x ∈ (goBy G late).2, x ∈ (goBy G away).2 :=
  (goBy_fin ha).top _ (fun x hx => h x ((goBy_fin hl).sub x hx)) (goBy_fin hl).stuck
theorem goBy_more {G G' : List (List Nat)} {away : List Nat} (ha : away.Pairwise (· < ·)) (h : ∀ pl ∈ G, pl ∈ G') : ∀ x ∈ (goBy G' away).2, x ∈ (goBy G away).2 :=
  (goBy_fin ha).top _ (goBy_fin ha).sub fun pl hpl => (goBy_fin ha).stuck pl (h pl hpl)
/-! ### the law's laps -/
def lapOf (G : List (List Nat)) (st : List (List Nat) × List Nat) : List (List Nat) × List Nat := if aloneOf G st.2 = [] then st else (st.1 ++ [mendedOf G st.2], lessOf st.2 (mendedOf G st.2))
def laps (G : List (List Nat)) : Nat → List (List Nat) × List Nat → List (List Nat) × List Nat
  | 0, st => st
  | i + 1, st => laps G i (lapOf G st)
theorem laps_succ (G : List (List Nat)) : ∀ (i : Nat) (st : List (List Nat) × List Nat), laps G (i + 1) st = lapOf G (laps G i st)
  | 0, _ => rfl
  | i + 1, st => by show laps G (i + 1) (lapOf G st) = lapOf G (laps G i (lapOf G st)); rw [laps_succ G i]
theorem laps_run (G : List (List Nat)) : ∀ (i : Nat) (found : List (List Nat)) (left : List Nat), laps G i (found, left) = (found ++ (goRun G i left).1, (goRun G i left).2)
  | 0, found, left => by show (found, left) = _; simp [goRun]
  | i + 1, found, left => by
    show laps G i (lapOf G (found, left)) = _
    unfold lapOf
    by_cases e : aloneOf G left = []
    · have e2 := mended_nil.mpr e
      rw [if_pos e, laps_run G i]
      have e3 : goRun G i left = ([], left) := by
        cases i with
        | zero => rfl
        | succ j => show (if _ then _ else _) = _; rw [if_pos e2]
      have e4 : goRun G (i + 1) left = ([], left) := by show (if _ then _ else _) = _; rw [if_pos e2]
      rw [e3, e4]
    · have e2 : ¬ mendedOf G left = [] := fun z => e (mended_nil.mp z)
      rw [if_neg e, laps_run G i]
      have e4 : goRun G (i + 1) left = (mendedOf G left :: (goRun G i (lessOf left (mendedOf G left))).1, (goRun G i (lessOf left (mendedOf G left))).2) := by show (if _ then _ else _) = _; rw [if_neg e2]
      rw [e4]; simp
theorem laps_by (G : List (List Nat)) (away : List Nat) : laps G away.length ([], away) = goBy G away := by rw [laps_run]; simp [goBy]
/-! ### one by one -/
/-- a state of the one-by-one walk after i laps -/
def OneSt (G : List (List Nat)) (away : List Nat) (i : Nat) (left : List Nat) : Prop := left.Pairwise (· < ·) ∧ (∀ L, Fin_ G left L → Fin_ G away L) ∧ (aloneOf G left = [] ∨ left.length + i ≤ away.length)
theorem one_start {G : List (List Nat)} {away : List Nat} (h : away.Pairwise (· < ·)) : OneSt G away 0 away := ⟨h, fun _ h => h, .inr (Nat.le_refl _)⟩
theorem one_stay {G : List (List Nat)} {away left : List Nat} {i : Nat} (h : OneSt G away i left) (e : aloneOf G left = []) : OneSt G away (i + 1) left := ⟨h.1, h.2.1, .inl e⟩
theorem one_go {G : List (List Nat)} {away left : List Nat} {i a : Nat} (h : OneSt G away i left) (ha : a ∈ aloneOf G left) : OneSt G away (i + 1) (left.filter fun x => decide (x ≠ a)) := by
  refine ⟨h.1.filter _, fun L hL => h.2.1 L (Fin_.go (fun x hx => (List.mem_filter.mp hx).1) (fun x hx hn => ?_) hL), .inr ?_⟩
  · have : x = a := Classical.byContradiction fun z => hn (List.mem_filter.mpr ⟨hx, by simpa using z⟩)
    rw [this]; exact ha
  · have h3 : left.length + i ≤ away.length := h.2.2.resolve_left fun z => by rw [z] at ha; cases ha
    have : (left.filter fun x => decide (x ≠ a)).length < left.length := List.length_filter_lt_length_iff_exists.mpr ⟨a, alone_sub ha, by simp⟩
    omega
theorem one_end {G : List (List Nat)} {away left : List Nat} (h : away.Pairwise (· < ·)) (hs : OneSt G away away.length left) : left = (goBy G away).2 := by
  have e : aloneOf G left = [] := by
    rcases hs.2.2 with e | e
    · exact e
    · have : left = [] := List.length_eq_zero_iff.mp (by omega)
      subst this
      exact List.eq_nil_iff_forall_not_mem.mpr fun a ha => by have := alone_sub ha; cases this
  exact (hs.2.1 left (Fin_.stop hs.1 e)).uniq (goBy_fin h)
/-! ### what is mended is known -/
theorem mended_known {p : Int} {n : Nat} {rows ties : List (List Int)} {away : List Nat} (hp : PrmI p) (ha : LotOk n away) (ht : ∀ x ∈ ties, RowOk p n x ∧ InSp p n rows x) :
    ∀ a ∈ away, a ∉ (goBy (ties.map (spotsOf n)) away).2 → Known p n rows away a := by
  intro a haw hno w hw hz
  -- the places of the lot where w differs are stuck
  refine Classical.byContradiction fun hne => hno ?_
  refine (goBy_fin ha.1).top (away.filter fun s => decide (¬ p ∣ w s)) (fun x hx => (List.mem_filter.mp hx).1) (fun pl hpl hone => ?_) a (List.mem_filter.mpr ⟨haw, by simpa using hne⟩)
  obtain ⟨x, hx, rfl⟩ := List.mem_map.mp hpl
  obtain ⟨hxo, hxs⟩ := ht x hx
  obtain ⟨b, hb⟩ : ∃ b, onlyOf (spotsOf n x) (away.filter fun s => decide (¬ p ∣ w s)) = [b] := by
    match onlyOf (spotsOf n x) (away.filter fun s => decide (¬ p ∣ w s)), hone with
    | [b], _ => exact ⟨b, rfl⟩
  have hm : ∀ s, (s < n ∧ 0 < gt x s ∧ s ∈ away ∧ ¬ p ∣ w s) ↔ s = b := fun s => by
    have : s ∈ onlyOf (spotsOf n x) (away.filter fun s => decide (¬ p ∣ w s)) ↔ s = b := by rw [hb, List.mem_singleton]
    rw [mem_only] at this
    unfold spotsOf at this
    rw [List.mem_filter, List.mem_filter, List.mem_range] at this
    rw [← this]; simp; exact and_assoc.symm
  have hbb := (hm b).mpr rfl
  have e := dot_one_mod (p := p) (f := gt x) (g := w) hbb.1 fun j hj hjb => by
    by_cases h1 : 0 < gt x j
    · by_cases h2 : j ∈ away
      · exact Int.dvd_mul_of_dvd_right (Classical.byContradiction fun z => hjb ((hm j).mp ⟨hj, h1, h2, z⟩))
      · exact Int.dvd_mul_of_dvd_right (hz j hj h2)
    · have := (hxo.at hj).1
      have h0 : gt x j = 0 := by omega
      rw [h0]; simp
  exact (prm_mul hp (dvd_of_sub' e (hxs w hw))).elim (unit_row hp hxo hbb.1 (by omega)) hbb.2.2.2
/-! ### the papers' sums mend all that is known in one going -/
theorem papers_go {p : Int} {n : Nat} {away back : List Nat} {xs : List (List Int)} (ha : LotOk n away) (hb : ∀ x ∈ back, x ∈ away) (hlen : xs.length = back.length)
    (hx : ∀ (i : Nat) (x : List Int) (b : Nat), xs[i]? = some x → back[i]? = some b → RowOk p n x ∧ gt x b ≠ 0 ∧ ∀ u ∈ away, u ≠ b → gt x u = 0) (hba : back.Pairwise (· < ·)) :
    goBy (xs.map (spotsOf n)) away = (if back = [] then [] else [back], lessOf away back) := by
  have hone : ∀ (i : Nat) (x : List Int) (b : Nat), xs[i]? = some x → back[i]? = some b → ∀ S : List Nat, (∀ s ∈ S, s ∈ away) → onlyOf (spotsOf n x) S = if b ∈ S then [b] else [] := fun i x b h1 h2 S hS => by
    obtain ⟨h3, h4, h5⟩ := hx i x b h1 h2
    have hbm : b ∈ away := hb b (List.mem_of_getElem? h2)
    have hbn := ha.2 b hbm
    refine asc_ext (l := onlyOf (spotsOf n x) S) ((List.pairwise_lt_range.filter _).filter _) (by split <;> simp) fun s => ?_
    rw [mem_only]
    unfold spotsOf
    rw [List.mem_filter, List.mem_range]
    constructor
    · rintro ⟨⟨h6, h7⟩, h8⟩
      have h7 : 0 < gt x s := by simpa using h7
      have : s = b := Classical.byContradiction fun z => by have := h5 s (hS s h8) z; omega
      subst this
      rw [if_pos h8]; exact List.mem_cons_self
    · intro h6
      by_cases hbS : b ∈ S
      · rw [if_pos hbS] at h6
        rw [List.mem_singleton.mp h6]
        have := h3.at hbn
        exact ⟨⟨hbn, by simp; omega⟩, hbS⟩
      · rw [if_neg hbS] at h6; cases h6
  have halone : ∀ S : List Nat, (∀ s ∈ S, s ∈ away) → ∀ a, a ∈ aloneOf (xs.map (spotsOf n)) S ↔ a ∈ back ∧ a ∈ S := fun S hS a => by
    rw [mem_alone]
    constructor
    · rintro ⟨pl, h1, h2⟩
      obtain ⟨x, hxm, rfl⟩ := List.mem_map.mp h1
      obtain ⟨i, hi, rfl⟩ := List.getElem_of_mem hxm
      have h3 := hone i _ _ (List.getElem?_eq_getElem hi) (List.getElem?_eq_getElem (show i < back.length by omega)) S hS
      rw [h2] at h3
      by_cases hbS : back[i] ∈ S
      · rw [if_pos hbS] at h3
        have : a = back[i] := by simpa using h3
        rw [this]; exact ⟨List.getElem_mem _, hbS⟩
      · rw [if_neg hbS] at h3; cases h3
    · rintro ⟨h1, h2⟩
      obtain ⟨i, hi, rfl⟩ := List.getElem_of_mem h1
      have h3 := hone i _ _ (List.getElem?_eq_getElem (show i < xs.length by omega)) (List.getElem?_eq_getElem hi) S hS
      rw [if_pos h2] at h3
      exact ⟨_, List.mem_map_of_mem (List.getElem_mem _), h3⟩
  have hm1 : mendedOf (xs.map (spotsOf n)) away = back := by
    refine asc_ext (ha.1.filter _) hba fun a => ?_
    rw [mem_mended, halone away (fun _ h => h)]
    exact ⟨fun h => h.1, fun h => ⟨h, hb a h⟩⟩
  have hm2 : mendedOf (xs.map (spotsOf n)) (lessOf away back) = [] := by
    rw [mended_nil]
    refine List.eq_nil_iff_forall_not_mem.mpr fun a h => ?_
    have := (halone (lessOf away back) (fun s hs => (mem_less.mp hs).1) a).mp h
    exact (mem_less.mp this.2).2 this.1
  by_cases e : back = []
  · rw [goBy_stop (by rw [hm1]; exact e), if_pos e, e]
    have : lessOf away [] = away := by unfold lessOf; simp
    rw [this]
  · rw [goBy_go (by rw [hm1]; exact e), hm1, goBy_stop hm2, if_neg e]
end Dt

namespace Dt
open PySem PySem.Spec L2
local macro_rules | `(tactic| wtm_at "own") => `(tactic| ((with_reducible show DB _ (.Name _ _) _ _); first | refine db_own 0 rfl ?_ | refine db_own 1 rfl ?_ | refine db_own 2 rfl ?_ | refine db_own 3 rfl ?_ | refine db_own 4 rfl ?_ | refine db_own 5 rfl ?_ | refine db_own 6 rfl ?_ | refine db_own 7 rfl ?_ | refine db_own 8 rfl ?_ | refine db_own 9 rfl ?_ | refine db_own 10 rfl ?_ | refine db_own 11 rfl ?_ | refine db_own 12 rfl ?_ | refine db_own 13 rfl ?_))
local macro_rules | `(tactic| wtm_at "fee") => `(tactic| ((with_reducible show DAs _ (.Name _ _ :: _) _ _); first | refine da_fee 0 rfl ?_ | refine da_fee 1 rfl ?_ | refine da_fee 2 rfl ?_))
local macro_rules | `(tactic| wtm_at "var") => `(tactic| ((with_reducible show DE _ (.Name _ _) _ _); first | refine de_var 0 rfl ?_ | refine de_var 1 rfl ?_ | refine de_var 2 rfl ?_ | refine de_var 3 rfl ?_ | refine de_var 4 rfl ?_ | refine de_var 5 rfl ?_ | refine de_var 6 rfl ?_ | refine de_var 7 rfl ?_ | refine de_var 8 rfl ?_ | refine de_var 9 rfl ?_ | refine de_var 10 rfl ?_ | refine de_var 11 rfl ?_ | refine de_var 12 rfl ?_ | refine de_var 13 rfl ?_))
local macro_rules | `(tactic| wtm_at "gDE") => `(tactic| ((with_reducible show DE _ _ _ _); first
  | wtm_at "var"
  | ((with_reducible show DE _ (.Constant (.int _) _ _) _ _); refine de_int ?_)
  | ((with_reducible show DE _ (.Constant (.bool _) _ _) _ _); refine de_bl ?_)
  | ((with_reducible show DE _ (.Constant (.str _) _ _) _ _); refine de_str ?_)
  | ((with_reducible show DE _ (.Constant .none _ _) _ _); refine de_non ?_)
  | ((with_reducible show DE _ (.BinOp _ .Sub _ _) _ _); refine de_sub ?_)
  | ((with_reducible show DE _ (.BinOp _ .Mod _ _) _ _); refine de_mod ?_)
  | ((with_reducible show DE _ (.BinOp _ .FloorDiv _ _) _ _); refine de_fdiv ?_)
  | ((with_reducible show DE _ (.UnaryOp .USub _ _) _ _); refine de_neg ?_)
  | ((with_reducible show DE _ (.UnaryOp .Not _ _) _ _); refine de_not ?_)
  | ((with_reducible show DE _ (.BoolOp _ [_] _) _ _); refine de_one ?_)
  | ((with_reducible show DE _ (.BoolOp .And (_ :: _ :: _) _) _ _); refine de_and ?_)
  | ((with_reducible show DE _ (.BoolOp .Or (_ :: _ :: _) _) _ _); refine de_or ?_)
  | ((with_reducible show DE _ (.IfExp _ _ _ _) _ _); refine de_if ?_)
  | ((with_reducible show DE _ (.Compare _ [.Lt, .LtE] _ _) _ _); refine de_ltle ?_)
  | ((with_reducible show DE _ (.Compare _ [_] [_] _) _ _); refine de_cmp ?_)
  | ((with_reducible show DE _ (.Tuple _ _ _) _ _); refine de_tuple ?_)
  | ((with_reducible show DE _ (.Call (.Name (Str.ofString "len") _) [_] [] _) _ _); refine de_len (Bl.len (by assumption)) ?_)
  | ((with_reducible show DE _ (.Call (.Name (Str.ofString "int") _) [_] [] _) _ _); refine de_intc (Bl.int (by assumption)) ?_)
  | ((with_reducible show DE _ (.Call (.Name (Str.ofString "tuple") _) [_] [] _) _ _); refine de_tup (Bl.tuple (by assumption)) ?_)
  | ((with_reducible show DE _ (.Call (.Name (Str.ofString "sum") _) [_] [] _) _ _); refine de_sum rfl (Bl.sum (by assumption)) ?_)
  | ((with_reducible show DE _ (.Call (.Name (Str.ofString "all") _) [_] [] _) _ _); refine de_all rfl (Bl.all (by assumption)) ?_)
  | ((with_reducible show DE _ (.Subscript _ (.Slice _ _ _ _) _) _ _); refine de_sliceT ?_)
  | ((with_reducible show DE _ (.Subscript _ _ _) _ _); refine de_ix ?_)
  | ((with_reducible show DE _ (.ListComp _ _ _ _) _ _); refine de_lst ?_)
  | ((with_reducible show DE _ (.List _ _) _ _); refine de_lst ?_)))
local macro_rules | `(tactic| wtm_at "gDC") => `(tactic| ((with_reducible show DC _ _ _ _ _ _); first
  | ((with_reducible show DC _ .Eq _ (.List [] _) _ _); refine dc_eqD (hu_of (by assumption)) ?_)
  | ((with_reducible show DC _ .NotEq _ (.List [] _) _ _); refine dc_neD (hu_of (by assumption)) ?_)
  | ((with_reducible show DC _ .Eq _ (.Tuple [] _ _) _ _); refine dc_eqD (hu_of (by assumption)) ?_)
  | ((with_reducible show DC _ .NotEq _ (.Tuple [] _ _) _ _); refine dc_neD (hu_of (by assumption)) ?_)
  | ((with_reducible show DC _ .Eq _ _ _ _); refine dc_eqI ?_)
  | ((with_reducible show DC _ .NotEq _ _ _ _); refine dc_neI ?_)
  | ((with_reducible show DC _ .Lt _ _ _ _); refine dc_lt ?_)
  | ((with_reducible show DC _ .LtE _ _ _ _); refine dc_le ?_)
  | ((with_reducible show DC _ .Gt _ _ _ _); refine dc_gt ?_)
  | ((with_reducible show DC _ .GtE _ _ _ _); refine dc_ge ?_)
  | ((with_reducible show DC _ .In _ _ _ _); refine dc_in ?_)
  | ((with_reducible show DC _ .NotIn _ _ _ _); refine dc_notin ?_)
  | ((with_reducible show DC _ .Is _ _ _ _); refine dc_isN ?_)
  | ((with_reducible show DC _ .IsNot _ _ _ _); refine dc_notN ?_)))
local macro_rules | `(tactic| wtm_at "gDT") => `(tactic| ((with_reducible show DT _ _ _ _); first
  | ((with_reducible show DT _ (.Compare _ [.Lt, .Lt] _ _) _ _); refine dt_ltlt ?_)
  | ((with_reducible show DT _ (.Compare _ [_] [_] _) _ _); refine dt_cmp ?_)
  | ((with_reducible show DT _ (.UnaryOp .Not _ _) _ _); refine dt_not ?_)
  | ((with_reducible show DT _ (.BoolOp .And [_, _] _) _ _); refine dt_and ?_)
  | ((with_reducible show DT _ (.BoolOp .Or [_, _] _) _ _); refine dt_or ?_)
  | ((with_reducible show DT _ (.BoolOp _ _ _) _ _); refine dt_w ?_)
  | ((with_reducible show DT _ (.Call _ _ _ _) _ _); refine dt_val ?_)
  | ((with_reducible show DT _ (.Name _ _) _ _); refine dt_val ?_)))
local macro_rules | `(tactic| wtm_at "gDW") => `(tactic| ((with_reducible show DW _ _ _ _); first
  | ((with_reducible show DW _ (.BoolOp .And [_] _) _ _); refine dw_and1 ?_)
  | ((with_reducible show DW _ (.BoolOp .Or [_] _) _ _); refine dw_or1 ?_)
  | ((with_reducible show DW _ (.BoolOp .And (_ :: _ :: _) _) _ _); refine dw_and ?_)
  | ((with_reducible show DW _ (.BoolOp .Or (_ :: _ :: _) _) _ _); refine dw_or ?_)))
local macro_rules | `(tactic| wtm_at "gDB") => `(tactic| ((with_reducible show DB _ _ _ _); first
  | ((with_reducible show DB _ (.ListComp _ _ _ _) _ _); refine db_lst ?_)
  | ((with_reducible show DB _ (.List _ _) _ _); refine db_lst ?_)
  | wtm_at "own"
  | refine db_of ?_))
local macro_rules | `(tactic| wtm_at "gDL") => `(tactic| ((with_reducible show DL _ _ _ _); first
  | ((with_reducible show DL _ (.List _ _) _ _); refine dl_list ?_)
  | ((with_reducible show DL _ (.IfExp _ _ _ _) _ _); refine dl_if ?_)
  | ((with_reducible show DL _ (.Subscript _ (.Slice _ _ _ _) _) _ _); refine dl_slice ?_)
  | ((with_reducible show DL _ (.Call (.Name (Str.ofString "list") _) [_] [] _) _ _); refine dl_of (Bl.list (by assumption)) ?_)))
local macro_rules | `(tactic| wtm_at "gDDs") => `(tactic| ((with_reducible show DDs _ _ _ _); first
  | ((with_reducible show DDs _ [] _ _); refine dd_nil ?_)
  | ((with_reducible show DDs _ (.Starred _ _ :: _) _ _); refine dd_star ?_)
  | ((with_reducible show DDs _ (_ :: _) _ _); refine dd_cons ?_)))
local macro_rules | `(tactic| wtm_at "gDAs") => `(tactic| ((with_reducible show DAs _ _ _ _); first
  | wtm_at "fee"
  | ((with_reducible show DAs _ [] _ _); refine da_nil ?_)
  | refine da_cons ?_))
local macro_rules | `(tactic| wtm_at "gDO") => `(tactic| ((with_reducible show DO _ _ _ _); first
  | ((with_reducible show DO _ none _ _); refine do_none ?_)
  | ((with_reducible show DO _ (some _) _ _); refine do_some ?_)))
local macro_rules | `(tactic| wtm_at "gDV") => `(tactic| ((with_reducible show DV _ _ _ _); first
  | ((with_reducible show DV _ (.Name _ _) _ _); refine dv_sh ?_)
  | ((with_reducible show DV _ (.Constant _ _ _) _ _); refine dv_sh ?_)
  | ((with_reducible show DV _ (.Tuple _ _ _) _ _); refine dv_sh ?_)
  | ((with_reducible show DV _ (.BinOp _ _ _ _) _ _); refine dv_sh ?_)
  | ((with_reducible show DV _ (.Subscript _ _ _) _ _); refine dv_sh ?_)))
local macro_rules | `(tactic| wtm_at "gDSs") => `(tactic| ((with_reducible show DSs _ _ _ _); first
  | ((with_reducible show DSs _ [] _ _); refine ds_nil ?_)
  | ((with_reducible show DSs _ (_ :: _) _ _); refine ds_cons ?_)))
local macro_rules | `(tactic| wtm_at "gDSt") => `(tactic| ((with_reducible show DSt _ _ _ _); first
  | ((with_reducible show DSt _ (.Return _ _) _ _); refine ds_retD ?_)
  | ((with_reducible show DSt _ (.If _ _ _ _) _ _); refine ds_if ?_)
  | ((with_reducible show DSt _ (.Pass _) _ _); refine ds_pass ?_)))
local macro_rules | `(tactic| wtm_at "wit") => `(tactic| first | (refine ⟨_, rfl, ?_⟩) | (refine ⟨_, .inr rfl, ?_⟩) | (refine ⟨_, .inl rfl, ?_⟩) | (refine ⟨_, _, rfl, ?_⟩) | (refine ⟨_, _, rfl, rfl, ?_⟩) | (refine ⟨_, _, rfl, at_head, ?_⟩) | (refine ⟨_, _, _, rfl, ?_⟩) | (refine ⟨_, _, _, _, rfl, ?_⟩) | (refine ⟨_, _, _, _, _, rfl, ?_⟩) | (refine ⟨_, _, _, _, _, _, rfl, ?_⟩))
local macro_rules | `(tactic| wtm_at "d") => `(tactic| repeat (first | wtm_at "gDE" | wtm_at "gDC" | wtm_at "gDT" | wtm_at "gDW" | wtm_at "gDB" | wtm_at "gDL" | wtm_at "gDDs" | wtm_at "gDAs" | wtm_at "gDO" | wtm_at "gDV" | wtm_at "gDSs" | wtm_at "gDSt" | ((with_reducible show Exists _); wtm_at "wit") | ((with_reducible show And _ _); first | refine ⟨rfl, ?_⟩ | refine ⟨by assumption, ?_⟩ | refine ⟨Nat.zero_le _, ?_⟩ | refine ⟨Nat.le_of_ble_eq_true rfl, ?_⟩ | refine ⟨by omega, ?_⟩)))

section
variable {P : Program} {w : World} {K : PySem.W.Frag} {mg : Str → Option Value} {base : Heap}
abbrev F_is_integer : FS := fun ss k => ∃ i, ss = [.sh (.int i)] ∧ k (.bool true)
abbrev F_is_number : FS := fun ss k => ∃ i, ss = [.sh (.int i)] ∧ k (.bool (decide (0 ≤ i)))
abbrev F_is_prime : FS := fun ss k => ∃ p, ss = [.sh (.int p)] ∧ PrmI p ∧ k (.bool true)
abbrev F_is_index : FS := fun ss k => ∃ m i, ss = [.sh (.int m), .sh (.int i)] ∧ k (.bool (decide (0 ≤ i ∧ i < m)))
abbrev F_is_tuple_of : FS := fun ss k => ∃ (ds : List D) (n : Int), ss = [.sh (.tuple ds), .sh (.int n)] ∧ k (.bool (decide ((ds.length : Int) = n)))
abbrev F_are_rests : FS := fun ss k => ∃ (p : Int) (n : Nat) (r : List Int), ss = [.sh (.int p), .sh (.int n), .sh (tI r)] ∧ RowOk p n r ∧ n ≤ 12 ∧ k (.bool true)
abbrev F_is_sum_of : FS := fun ss k => ∃ (p : Int) (n : Nat) (r : List Int), ss = [.sh (.int p), .sh (.int n), .sh (tI r)] ∧ SumOk p n r ∧ n ≤ 12 ∧ k (.bool true)
abbrev F_is_size : FS := fun ss k => ∃ n : Int, ss = [.sh (.int n)] ∧ 1 ≤ n ∧ n ≤ 100 ∧ k (.bool true)
abbrev F_are_ascending : FS := fun ss k => ∃ l : List Nat, ss = [.sh (tN l)] ∧ l.Pairwise (· < ·) ∧ l.length ≤ 12 ∧ k (.bool true)
abbrev F_sums_fault : FS := fun ss k => ∃ (p : Int) (n : Nat) (rows : List (List Int)), ss = [.sh (.int p), .sh (.int n), .sh (tR rows)] ∧ BookOk p n rows ∧ k .none
abbrev F_book_fault : FS := fun ss k => ∃ (p : Int) (n : Nat) (rows : List (List Int)), ss = [.sh (bkD p n rows)] ∧ BookOk p n rows ∧ k .none
abbrev F_is_lot_of : FS := fun ss k => ∃ (p : Int) (n : Nat) (rows : List (List Int)) (l : List Nat), ss = [.sh (bkD p n rows), .sh (tN l)] ∧ BookOk p n rows ∧ LotOk n l ∧ k (.bool true)
theorem c_is_integer (B : Bl mg) (Df : Def K mg "is_integer" 3 []) :
    Cal P w K mg base "is_integer" 1 [] F_is_integer := by
  have Sc : FnScope ["thing"] ["thing"] (defScope (tp 3)) := ⟨rfl, rfl, rfl, by decide +kernel, rfl, by decide +kernel, by decide +kernel⟩
  refine cal0 Df Sc (fun _ _ _ _ _ _ us hl => match us, hl with | [_], _ => rfl) (fun ss k h => ?_) fun f cdv A outer s H E hr ss k h => ?_
  · obtain ⟨_, rfl, _⟩ := h; rfl
  · obtain ⟨i, rfl, hk⟩ := h
    refine ds_one (ds_retD (de_and (de_isiC "int" "int" true B.isinstance B.int (by decide +kernel) (by decide +kernel) ?_)))
    wtm_at "d"
    refine iy rfl (de_one (de_not (de_isiC "bool" "int" false B.isinstance B.bool (by decide +kernel) (by decide +kernel) ?_)))
    wtm_at "d"
    exact hk
theorem c_is_number (B : Bl mg) (Df : Def K mg "is_number" 4 []) (C_is_integer : Cal P w K mg base "is_integer" 1 [] F_is_integer) :
    Cal P w K mg base "is_number" 2 [] F_is_number := by
  have Sc : FnScope ["thing"] ["thing"] (defScope (tp 4)) := ⟨rfl, rfl, rfl, by decide +kernel, rfl, by decide +kernel, by decide +kernel⟩
  refine cal0 Df Sc (fun _ _ _ _ _ _ us hl => match us, hl with | [_], _ => rfl) (fun ss k h => ?_) fun f cdv A outer s H E hr ss k h => ?_
  · obtain ⟨_, rfl, _⟩ := h; rfl
  · obtain ⟨i, rfl, hk⟩ := h
    refine ds_one (ds_retD (de_and (de_callR C_is_integer hr ?_)))
    wtm_at "d"
    refine iy rfl ?_
    wtm_at "d"
    exact hk
theorem c_is_prime (B : Bl mg) (Df : Def K mg "is_prime" 5 []) (C_is_number : Cal P w K mg base "is_number" 2 [] F_is_number) :
    Cal P w K mg base "is_prime" 3 [] F_is_prime := by
  have Sc : FnScope ["thing", "part"] ["thing"] (defScope (tp 5)) := ⟨rfl, rfl, rfl, by decide +kernel, rfl, by decide +kernel, by decide +kernel⟩
  refine cal0 Df Sc (fun _ _ _ _ _ _ us hl => match us, hl with | [_], _ => rfl) (fun ss k h => ?_) fun f cdv A outer s H E hr ss k h => ?_
  · obtain ⟨_, rfl, _⟩ := h; rfl
  · obtain ⟨p, rfl, hp, hk⟩ := h
    have h2 := hp.two
    refine ds_cons (ds_if (dt_or (dt_not ?_)))
    refine dt_val (de_callR C_is_number hr ?_)
    wtm_at "d"
    refine ino (by simp; omega) ?_
    wtm_at "d"
    refine iyd (by omega) (de_glob B.TOP ?_)
    wtm_at "d"
    refine ino (by simp; omega) ?_
    wtm_at "d"
    refine ds_set 1 Sc.nd (dv_sh ?_)
    wtm_at "d"
    refine ds_while PassesOwn.never (fun m δ => ∃ c : Int, δ = [some (.sh (.int p)), some (.sh (.int c))] ∧ 2 ≤ c ∧ c ≤ 5 ∧ (c = 5 → p ≤ 16) ∧ m = (6 - c).toNat) 4 ⟨2, rfl, by omega, by omega, by omega, by omega⟩ fun m δ' hI => ?_
    obtain ⟨c, rfl, hc1, hc2, hc3, rfl⟩ := hI
    refine dt_cmp (dc_le (de_mul ?_))
    wtm_at "d"
    refine ⟨.inl ⟨by omega, by omega⟩, _, rfl, ?_⟩
    wtm_at "d"
    refine isd (fun e => ?_) fun e => ?_
    · have hc5 : c ≠ 5 := fun z => by subst z; have := hc3 rfl; omega
      have hm : ¬ p % c = 0 := by
        have : c = 2 ∨ c = 3 ∨ c = 4 := by omega
        rcases this with rfl | rfl | rfl <;> unfold PrmI at hp <;> omega
      wtm_at "d"
      refine ind hm ?_
      wtm_at "d"
      refine ds_set 1 Sc.nd (dv_sh (de_add ?_))
      wtm_at "d"
      exact ⟨(6 - (c + 1)).toNat, by omega, c + 1, rfl, by omega, by omega, by unfold PrmI at hp; omega, rfl⟩
    · wtm_at "d"
      exact hk
theorem c_is_index (B : Bl mg) (Df : Def K mg "is_index" 6 []) (C_is_number : Cal P w K mg base "is_number" 2 [] F_is_number) :
    Cal P w K mg base "is_index" 3 [] F_is_index := by
  have Sc : FnScope ["many", "thing"] ["many", "thing"] (defScope (tp 6)) := ⟨rfl, rfl, rfl, by decide +kernel, rfl, by decide +kernel, by decide +kernel⟩
  refine cal0 Df Sc (fun _ _ _ _ _ _ us hl => match us, hl with | [_, _], _ => rfl) (fun ss k h => ?_) fun f cdv A outer s H E hr ss k h => ?_
  · obtain ⟨_, _, rfl, _⟩ := h; rfl
  · obtain ⟨m, i, rfl, hk⟩ := h
    refine ds_one (ds_retD (de_and (de_callR C_is_number hr ?_)))
    wtm_at "d"
    refine isd (fun e => ?_) fun e => ?_
    · wtm_at "d"
      simpa [e] using hk
    · simpa [e] using hk
theorem c_is_tuple_of (B : Bl mg) (Df : Def K mg "is_tuple_of" 7 []) :
    Cal P w K mg base "is_tuple_of" 1 [] F_is_tuple_of := by
  have Sc : FnScope ["thing", "many"] ["thing", "many"] (defScope (tp 7)) := ⟨rfl, rfl, rfl, by decide +kernel, rfl, by decide +kernel, by decide +kernel⟩
  refine cal0 Df Sc (fun _ _ _ _ _ _ us hl => match us, hl with | [_, _], _ => rfl) (fun ss k h => ?_) fun f cdv A outer s H E hr ss k h => ?_
  · obtain ⟨_, _, rfl, _⟩ := h; rfl
  · obtain ⟨ds, n, rfl, hk⟩ := h
    refine ds_one (ds_retD (de_and ?_))
    refine de_isiC "tuple" "tuple" true B.isinstance B.tuple (by decide +kernel) (by decide +kernel) ?_
    wtm_at "d"
    refine iy rfl ?_
    wtm_at "d"
    exact hk
theorem c_are_rests (B : Bl mg) (Df : Def K mg "are_rests" 8 []) (C_is_tuple_of : Cal P w K mg base "is_tuple_of" 1 [] F_is_tuple_of) (C_is_index : Cal P w K mg base "is_index" 3 [] F_is_index) :
    Cal P w K mg base "are_rests" 4 [] F_are_rests := by
  have Sc : FnScope ["prime", "many", "thing", "one"] ["prime", "many", "thing"] (defScope (tp 8)) := ⟨rfl, rfl, rfl, by decide +kernel, rfl, by decide +kernel, by decide +kernel⟩
  refine cal0 Df Sc (fun _ _ _ _ _ _ us hl => match us, hl with | [_, _, _], _ => rfl) (fun ss k h => ?_) fun f cdv A outer s H E hr ss k h => ?_
  · obtain ⟨_, _, _, rfl, _⟩ := h; rfl
  · obtain ⟨p, n, r, rfl, hr', hn, hk⟩ := h
    refine ds_one (ds_retD (de_and ?_))
    refine de_callR C_is_tuple_of hr ?_
    wtm_at "d"
    refine iyd (by rw [List.length_map, hr'.1]) ?_
    refine de_one (de_all rfl B.all (db_lst (lc1 3 r .int (fun i => .bool (decide (0 ≤ i ∧ i < p))) rfl Sc.nd (di_s (dis_tup 3 ?_)))))
    wtm_at "d"
    refine ⟨by have := hr'.1; omega, fun y _ s H C cl fp => ?_, ?_⟩
    · refine de_callR C_is_index hr ?_
      wtm_at "d"
      rfl
    · refine ⟨r.map fun i => decide (0 ≤ i ∧ i < p), by simp, ?_⟩
      have e : (r.map fun i => decide (0 ≤ i ∧ i < p)).all id = true := by simpa using hr'.2
      rw [e]; exact hk
theorem c_is_sum_of (B : Bl mg) (Df : Def K mg "is_sum_of" 9 []) (C_are_rests : Cal P w K mg base "are_rests" 4 [] F_are_rests) :
    Cal P w K mg base "is_sum_of" 5 [] F_is_sum_of := by
  have Sc : FnScope ["prime", "many", "thing", "one"] ["prime", "many", "thing"] (defScope (tp 9)) := ⟨rfl, rfl, rfl, by decide +kernel, rfl, by decide +kernel, by decide +kernel⟩
  refine cal0 Df Sc (fun _ _ _ _ _ _ us hl => match us, hl with | [_, _, _], _ => rfl) (fun ss k h => ?_) fun f cdv A outer s H E hr ss k h => ?_
  · obtain ⟨_, _, _, rfl, _⟩ := h; rfl
  · obtain ⟨p, n, r, rfl, hr', hn, hk⟩ := h
    refine ds_one (ds_retD (de_and ?_))
    refine de_callR C_are_rests hr ?_
    wtm_at "d"
    refine ⟨hr'.1, hn, _, rfl, iy rfl ?_⟩
    refine de_one (de_any rfl B.any (db_lst (lc1 3 r .int (fun i => .bool (decide (0 < i))) rfl Sc.nd (di_s (dis_tup 3 ?_)))))
    wtm_at "d"
    refine ⟨by have := hr'.1.1; omega, fun y _ s H C cl fp => ?_, ?_⟩
    · wtm_at "d"
      rfl
    · refine ⟨r.map fun i => decide (0 < i), by simp, ?_⟩
      have e : (r.map fun i => decide (0 < i)).any id = true := by
        obtain ⟨x, hx, h0⟩ := hr'.2
        have := hr'.1.2 x hx
        simp; exact ⟨x, hx, by omega⟩
      rw [e]; exact hk
theorem c_is_size (B : Bl mg) (Df : Def K mg "is_size" 10 []) (C_is_number : Cal P w K mg base "is_number" 2 [] F_is_number) :
    Cal P w K mg base "is_size" 3 [] F_is_size := by
  have Sc : FnScope ["thing"] ["thing"] (defScope (tp 10)) := ⟨rfl, rfl, rfl, by decide +kernel, rfl, by decide +kernel, by decide +kernel⟩
  refine cal0 Df Sc (fun _ _ _ _ _ _ us hl => match us, hl with | [_], _ => rfl) (fun ss k h => ?_) fun f cdv A outer s H E hr ss k h => ?_
  · obtain ⟨_, rfl, _⟩ := h; rfl
  · obtain ⟨n, rfl, h1, h2, hk⟩ := h
    refine ds_one (ds_retD (de_and (de_callR C_is_number hr ?_)))
    wtm_at "d"
    refine iyd (by omega) ?_
    wtm_at "d"
    refine iyd (by omega) (de_glob B.MOST ?_)
    wtm_at "d"
    rw [show decide (n ≤ 100) = true from decide_eq_true h2]
    exact hk
end
theorem Int.emod_emod_pow_ (a p : Int) : ∀ n : Nat, (a % p) ^ n % p = a ^ n % p
  | 0 => by rw [Int.pow_zero, Int.pow_zero]
  | n + 1 => by rw [Int.pow_succ, Int.pow_succ, Int.mul_emod, Int.emod_emod_pow_ a p n, Int.emod_emod, ← Int.mul_emod]
theorem pow_even (g l p : Int) (x : Nat) (h : ¬ (x : Int) % 2 = 1) : g * (l * l % p) ^ (x / 2) % p = g * l ^ x % p := by
  have e : x = 2 * (x / 2) := by omega
  have e2 : l ^ x = (l * l) ^ (x / 2) := by
    conv => lhs; rw [e]
    rw [Int.pow_mul, Int.pow_succ, Int.pow_succ, Int.pow_zero, Int.one_mul]
  rw [e2, Int.mul_emod, Int.emod_emod_pow_ (l * l) p (x / 2), ← Int.mul_emod]
theorem pow_odd (g l p : Int) (x : Nat) (h : (x : Int) % 2 = 1) : g * l % p * (l * l % p) ^ (x / 2) % p = g * l ^ x % p := by
  have e : x = 2 * (x / 2) + 1 := by omega
  have e2 : l ^ x = (l * l) ^ (x / 2) * l := by
    conv => lhs; rw [e]
    rw [Int.pow_succ, Int.pow_mul, Int.pow_succ, Int.pow_succ, Int.pow_zero, Int.one_mul]
  rw [e2, Int.mul_emod, Int.emod_emod_pow_ (l * l) p (x / 2), Int.emod_emod, ← Int.mul_emod]
  congr 1
  rw [Int.mul_assoc, Int.mul_comm l]
section
variable {P : Program} {w : World} {K : PySem.W.Frag} {mg : Str → Option Value} {base : Heap}
abbrev F_rest_of : FS := fun ss k => ∃ (p : Int) (n : Nat) (a b : List Int), ss = [.sh (.int p), .sh (tI a), .sh (tI b)] ∧ PrmI p ∧ n ≤ 12 ∧ RowOk p n a ∧ RowOk p n b ∧ k (.int (((a.zip b).map fun q => q.1 * q.2).sum % p))
abbrev F_power_at : FS := fun ss k => ∃ (p a e : Int), ss = [.sh (.int p), .sh (.int a), .sh (.int e)] ∧ PrmI p ∧ 0 ≤ a ∧ a < p ∧ 0 ≤ e ∧ e < 100 ∧ k (.int (a ^ e.toNat % p))
abbrev F_lessened_row : FS := fun ss k => ∃ (p : Int) (n spot : Nat) (row first : List Int), ss = [.sh (.int p), .sh (tI row), .sh (tI first), .sh (.int spot)] ∧ PrmI p ∧ n ≤ 12 ∧ spot < n ∧ RowOk p n row ∧ RowOk p n first ∧ k (tI (lessR p first spot row))
abbrev F_led_row : FS := fun ss k => ∃ (p : Int) (n spot : Nat) (row : List Int), ss = [.sh (.int p), .sh (tI row), .sh (.int spot)] ∧ PrmI p ∧ n ≤ 12 ∧ spot < n ∧ RowOk p n row ∧ k (tI (ledR p spot row))
theorem c_are_ascending (B : Bl mg) (Df : Def K mg "are_ascending" 11 []) :
    Cal P w K mg base "are_ascending" 1 [] F_are_ascending := by
  have Sc : FnScope ["things", "one", "late"] ["things"] (defScope (tp 11)) := ⟨rfl, rfl, rfl, by decide +kernel, rfl, by decide +kernel, by decide +kernel⟩
  refine cal0 Df Sc (fun _ _ _ _ _ _ us hl => match us, hl with | [_], _ => rfl) (fun ss k h => ?_) fun f cdv A outer s H E hr ss k h => ?_
  · obtain ⟨_, rfl, _⟩ := h; rfl
  · obtain ⟨l, rfl, hl, hn, hk⟩ := h
    refine ds_one (ds_retD ?_)
    refine de_all rfl B.all (db_lst (lc2 1 2 ((nI l).zip ((nI l).drop 1)) (fun q => .int q.1) (fun q => .int q.2) (fun q => .bool (decide (q.1 < q.2))) rfl Sc.nd (di_s (dis_zipT 1 2 B.zip ?_))))
    wtm_at "d"
    have ec := cut_from ((nI l).map PyData.int) 1
    rw [show ((1 : Nat) : Int) = 1 from rfl] at ec
    rw [ec, ← List.map_drop, zipWith_map2]
    refine ⟨rfl, by simp; omega, fun y _ s H C cl fp => ?_, ?_⟩
    · wtm_at "d"
      rfl
    · refine ⟨((nI l).zip ((nI l).drop 1)).map fun q => decide (q.1 < q.2), by simp, ?_⟩
      have e : (((nI l).zip ((nI l).drop 1)).map fun q => decide (q.1 < q.2)).all id = true := by
        rw [List.all_map, List.all_eq_true]
        intro q hq
        show decide (q.1 < q.2) = true
        have hp : (nI l).Pairwise (· < ·) := List.pairwise_map.mpr (hl.imp fun h => by omega)
        obtain ⟨i, hi, rfl⟩ := List.getElem_of_mem hq
        rw [List.getElem_zip, List.getElem_drop]
        rw [List.length_zip, List.length_drop] at hi
        refine decide_eq_true (List.pairwise_iff_getElem.mp hp i (1 + i) (by omega) (by omega) (by omega))
      rw [e]; exact hk
theorem c_sums_fault (B : Bl mg) (Df : Def K mg "sums_fault" 13 []) (C_are_rests : Cal P w K mg base "are_rests" 4 [] F_are_rests) (C_is_sum_of : Cal P w K mg base "is_sum_of" 5 [] F_is_sum_of) :
    Cal P w K mg base "sums_fault" 6 [] F_sums_fault := by
  have Sc : FnScope ["prime", "size", "thing", "k", "numbers"] ["prime", "size", "thing"] (defScope (tp 13)) := ⟨rfl, rfl, rfl, by decide +kernel, rfl, by decide +kernel, by decide +kernel⟩
  refine cal0 Df Sc (fun _ _ _ _ _ _ us hl => match us, hl with | [_, _, _], _ => rfl) (fun ss k h => ?_) fun f cdv A outer s H E hr ss k h => ?_
  · obtain ⟨_, _, _, rfl, _⟩ := h; rfl
  · obtain ⟨p, n, rows, rfl, hb, hk⟩ := h
    have hn1 := hb.n1
    have hn2 := hb.n2
    have hprm := hb.prm
    refine ds_cons (ds_if (dt_not (dt_val (de_isiC "tuple" "tuple" true B.isinstance B.tuple (by decide +kernel) (by decide +kernel) ?_))))
    wtm_at "d"
    refine ino rfl ?_
    wtm_at "d"
    refine for2 3 4 (List.range rows.length) (fun i => .int (i : Int)) (fun i => tI (rows.getD i [])) (fun i δ => ∃ a b, δ = [some (.sh (.int p)), some (.sh (.int n)), some (.sh (tR rows)), a, b]) PassesOwn.never rfl Sc.nd (dis_enum 3 4 B.enumerate ?_)
    wtm_at "d"
    refine ⟨?_, ⟨_, _, rfl⟩, fun i y δ' hi hI => ?_, fun δ' hI => ?_⟩
    · unfold enumD
      rw [rng_eq, List.length_map]
      have e : rows.map tI = (List.range rows.length).map fun i => tI (rows.getD i []) := by
        refine List.ext_getElem (by simp) fun i h1 h2 => ?_
        simp only [List.getElem_map, List.getElem_range]
        rw [List.getD_eq_getElem?_getD, List.getElem?_eq_getElem (by simpa using h1)]; rfl
      rw [e, zipWith_map2]
      refine List.ext_getElem (by simp) fun i h1 h2 => ?_
      simp
    · obtain ⟨a, b, rfl⟩ := hI
      have hy : y < rows.length := by have := List.mem_of_getElem? hi; simpa using this
      have hS : SumOk p n (rows.getD y []) := by
        rw [List.getD_eq_getElem?_getD, List.getElem?_eq_getElem hy]
        exact hb.sum _ (List.getElem_mem hy)
      refine ds_cons (ds_if (dt_not (dt_val (de_callR C_are_rests hr ?_))))
      have hS1 := hS.1
      wtm_at "d"
      refine ino rfl ?_
      refine ds_nil ?_
      refine ds_one (ds_if (dt_not (dt_val (de_callR C_is_sum_of hr ?_))))
      wtm_at "d"
      refine ino rfl ?_
      exact ds_nil ⟨_, _, rfl⟩
    · obtain ⟨a, b, rfl⟩ := hI
      refine ds_one (ds_retD (de_non hk))
theorem c_book_fault (B : Bl mg) (Df : Def K mg "book_fault" 14 []) (C_is_tuple_of : Cal P w K mg base "is_tuple_of" 1 [] F_is_tuple_of) (C_is_prime : Cal P w K mg base "is_prime" 3 [] F_is_prime) (C_sums_fault : Cal P w K mg base "sums_fault" 6 [] F_sums_fault) (C_is_size : Cal P w K mg base "is_size" 3 [] F_is_size) :
    Cal P w K mg base "book_fault" 7 [] F_book_fault := by
  have Sc : FnScope ["thing"] ["thing"] (defScope (tp 14)) := ⟨rfl, rfl, rfl, by decide +kernel, rfl, by decide +kernel, by decide +kernel⟩
  refine cal0 Df Sc (fun _ _ _ _ _ _ us hl => match us, hl with | [_], _ => rfl) (fun ss k h => ?_) fun f cdv A outer s H E hr ss k h => ?_
  · obtain ⟨_, _, _, rfl, _⟩ := h; rfl
  · obtain ⟨p, n, rows, rfl, hb, hk⟩ := h
    have hn1 := hb.n1
    have hn2 := hb.n2
    have hprm := hb.prm
    refine ds_cons (ds_if (dt_not (dt_val (de_callR C_is_tuple_of hr ?_))))
    wtm_at "d"
    refine ino rfl (ds_nil ?_)
    refine ds_cons (ds_if (dt_not (dt_val (de_callR C_is_prime hr ?_))))
    wtm_at "d"
    refine ino rfl (ds_nil ?_)
    refine ds_one (ds_retD (de_if (dt_val (de_callR C_is_size hr ?_))))
    wtm_at "d"
    refine iy rfl ?_
    refine de_callR C_sums_fault hr ?_
    wtm_at "d"
    exact hk
theorem c_is_lot_of (B : Bl mg) (Df : Def K mg "is_lot_of" 15 []) (C_is_index : Cal P w K mg base "is_index" 3 [] F_is_index) (C_are_ascending : Cal P w K mg base "are_ascending" 1 [] F_are_ascending) :
    Cal P w K mg base "is_lot_of" 4 [] F_is_lot_of := by
  have Sc : FnScope ["book", "thing", "one"] ["book", "thing"] (defScope (tp 15)) := ⟨rfl, rfl, rfl, by decide +kernel, rfl, by decide +kernel, by decide +kernel⟩
  refine cal0 Df Sc (fun _ _ _ _ _ _ us hl => match us, hl with | [_, _], _ => rfl) (fun ss k h => ?_) fun f cdv A outer s H E hr ss k h => ?_
  · obtain ⟨_, _, _, _, rfl, _⟩ := h; rfl
  · obtain ⟨p, n, rows, l, rfl, hb, hl, hk⟩ := h
    have hn1 := hb.n1
    have hn2 := hb.n2
    have hprm := hb.prm
    have hn1 := hb.n1
    have hn2 := hb.n2
    have hprm := hb.prm
    have hlen : l.length ≤ 12 := by
      exact Nat.le_trans (lot_len hl) hn2
    refine ds_one (ds_retD (de_and (de_isiC "tuple" "tuple" true B.isinstance B.tuple (by decide +kernel) (by decide +kernel) ?_)))
    wtm_at "d"
    refine iy rfl (de_and ?_)
    refine de_all rfl B.all (db_lst (lc1 2 l (fun i => .int i) (fun i => .bool (decide (i < n))) rfl Sc.nd (di_s (dis_tup 2 ?_))))
    wtm_at "d"
    refine ⟨by rw [nI, List.map_map]; rfl, by omega, fun y _ s H C cl fp => ?_, ?_⟩
    · refine de_callR C_is_index hr ?_
      wtm_at "d"
      show PyData.bool _ = PyData.bool _
      simp
    · refine ⟨l.map fun i => decide (i < n), by simp, ?_⟩
      have e : (l.map fun i => decide (i < n)).all id = true := by simpa using hl.2
      rw [e]
      refine ⟨true, rfl, iy rfl (de_one (de_callR C_are_ascending hr ?_))⟩
      wtm_at "d"
      exact ⟨hl.1, hlen, hk⟩
theorem c_rest_of (B : Bl mg) (Df : Def K mg "rest_of" 16 []) :
    Cal P w K mg base "rest_of" 1 [] F_rest_of := by
  have Sc : FnScope ["prime", "numbers", "signs", "number", "sign"] ["prime", "numbers", "signs"] (defScope (tp 16)) := ⟨rfl, rfl, rfl, by decide +kernel, rfl, by decide +kernel, by decide +kernel⟩
  refine cal0 Df Sc (fun _ _ _ _ _ _ us hl => match us, hl with | [_, _, _], _ => rfl) (fun ss k h => ?_) fun f cdv A outer s H E hr ss k h => ?_
  · obtain ⟨_, _, _, _, rfl, _⟩ := h; rfl
  · obtain ⟨p, n, a, b, rfl, hp, hn, ha, hb, hk⟩ := h
    have h2 := hp.two
    refine ds_one (ds_retD (de_mod (de_sum rfl B.sum (db_lst (lc2 3 4 (a.zip b) (fun q => .int q.1) (fun q => .int q.2) (fun q => .int (q.1 * q.2)) rfl Sc.nd (di_s (dis_zipT 3 4 B.zip ?_)))))))
    wtm_at "d"
    rw [zipWith_map2]
    refine ⟨rfl, by rw [List.length_zip, ha.1, hb.1]; omega, fun y hy s H C cl fp => ?_, (a.zip b).map fun q => q.1 * q.2, by simp, ?_⟩
    · have h1 := ha.2 _ (List.of_mem_zip hy).1
      refine de_mul ?_
      wtm_at "d"
      exact ⟨.inl ⟨by omega, by omega⟩, rfl⟩
    · wtm_at "d"
      exact hk
theorem c_power_at (B : Bl mg) (Df : Def K mg "power_at" 18 []) :
    Cal P w K mg base "power_at" 1 [] F_power_at := by
  have Sc : FnScope ["prime", "number", "exponent", "found", "late"] ["prime", "number", "exponent"] (defScope (tp 18)) := ⟨rfl, rfl, rfl, by decide +kernel, rfl, by decide +kernel, by decide +kernel⟩
  refine cal0 Df Sc (fun _ _ _ _ _ _ us hl => match us, hl with | [_, _, _], _ => rfl) (fun ss k h => ?_) fun f cdv A outer s H E hr ss k h => ?_
  · obtain ⟨_, _, _, rfl, _⟩ := h; rfl
  · obtain ⟨p, a, e, rfl, hp, ha, hap, he, he2, hk⟩ := h
    have h2 := hp.two
    refine ds_cons (ds_par 3 4 rfl Sc.nd (dv_sh (de_int (dv_sh ?_))))
    wtm_at "d"
    refine ds_while PassesOwn.never (fun m δ => ∃ (g l : Int) (x : Nat), δ = [some (.sh (.int p)), some (.sh (.int a)), some (.sh (.int x)), some (.sh (.int g)), some (.sh (.int l))] ∧ 0 ≤ g ∧ g < p ∧ 0 ≤ l ∧ l < p ∧ x = m ∧ x < 100 ∧ g * l ^ x % p = a ^ e.toNat % p) e.toNat ⟨1, a, e.toNat, by rw [Int.toNat_of_nonneg he]; rfl, by omega, by omega, by omega, by omega, rfl, by omega, by rw [Int.one_mul]⟩ fun m δ' hI => ?_
    obtain ⟨g, l, x, rfl, hg, hg2, hl, hl2, rfl, hx, hv⟩ := hI
    refine dt_cmp (dc_gt ?_)
    wtm_at "d"
    refine isd (fun e0 => ?_) fun e0 => ?_
    · have hx0 : 0 < x := by omega
      have hm : 0 ≤ g * l % p ∧ g * l % p < p := ⟨Int.emod_nonneg _ (by omega), Int.emod_lt_of_pos _ (by omega)⟩
      have hq : 0 ≤ l * l % p ∧ l * l % p < p := ⟨Int.emod_nonneg _ (by omega), Int.emod_lt_of_pos _ (by omega)⟩
      have hd : (x : Int) / 2 = ((x / 2 : Nat) : Int) := by omega
      refine ds_mid (fun δ => ∃ g' : Int, δ = [some (.sh (.int p)), some (.sh (.int a)), some (.sh (.int x)), some (.sh (.int g')), some (.sh (.int l))] ∧ 0 ≤ g' ∧ g' < p ∧ g' * (l * l % p) ^ (x / 2) % p = a ^ e.toNat % p) (ds_if (dt_cmp (dc_eqI ?_))) fun δ' hJ => ?_
      · wtm_at "d"
        refine isd (fun e1 => ?_) fun e1 => ?_
        · refine ds_one (ds_set 3 Sc.nd (dv_sh (de_mod (de_mul ?_))))
          wtm_at "d"
          refine ⟨.inl ⟨by omega, by omega⟩, ?_⟩
          wtm_at "d"
          first | (refine ⟨hm.1, hm.2, ?_⟩; rw [← hv]; exact pow_odd g l p x (by omega)) | (rw [← hv]; exact pow_odd g l p x (by omega))
        · refine ds_nil ⟨g, rfl, hg, hg2, ?_⟩
          rw [← hv]; exact pow_even g l p x (by omega)
      · obtain ⟨g', rfl, h1, h3, h4⟩ := hJ
        refine ds_cons (ds_set 4 Sc.nd (dv_sh (de_mod (de_mul ?_))))
        wtm_at "d"
        refine ⟨.inl ⟨by omega, by omega⟩, ?_⟩
        wtm_at "d"
        refine ds_set 2 Sc.nd (dv_sh ?_)
        wtm_at "d"
        exact ⟨⟨by omega, by omega⟩, ds_nil ⟨x / 2, by omega, g', l * l % p, x / 2, by rw [hd]; rfl, h1, h3, hq.1, hq.2, rfl, by omega, h4⟩⟩
    · have hx0 : x = 0 := by omega
      subst hx0
      refine ds_one (ds_retD ?_)
      wtm_at "d"
      rw [Int.pow_zero, Int.mul_one, Int.emod_eq_of_lt hg hg2] at hv
      rw [hv]; exact hk
theorem c_lessened_row (B : Bl mg) (Df : Def K mg "lessened_row" 19 []) :
    Cal P w K mg base "lessened_row" 1 [] F_lessened_row := by
  have Sc : FnScope ["prime", "row", "first", "spot", "one", "late"] ["prime", "row", "first", "spot"] (defScope (tp 19)) := ⟨rfl, rfl, rfl, by decide +kernel, rfl, by decide +kernel, by decide +kernel⟩
  refine cal0 Df Sc (fun _ _ _ _ _ _ us hl => match us, hl with | [_, _, _, _], _ => rfl) (fun ss k h => ?_) fun f cdv A outer s H E hr ss k h => ?_
  · obtain ⟨_, _, _, _, _, rfl, _⟩ := h; rfl
  · obtain ⟨p, n, spot, row, first, rfl, hp, hn, hs, ha, hb, hk⟩ := h
    have h2 := hp.two
    have hr0 := ha.at hs
    refine ds_one (ds_retD (de_tup B.tuple (db_lst (lc2 4 5 (row.zip first) (fun q => .int q.1) (fun q => .int q.2) (fun q => .int ((q.1 - gt row spot * q.2) % p)) rfl Sc.nd (di_s (dis_zipT 4 5 B.zip ?_))))))
    wtm_at "d"
    rw [zipWith_map2]
    refine ⟨rfl, by rw [List.length_zip, ha.1, hb.1]; omega, fun y hy s H C cl fp => ?_, ?_⟩
    · have h1 := ha.2 _ (List.of_mem_zip hy).1
      refine de_mod (de_sub ?_)
      wtm_at "d"
      refine de_mul ?_
      wtm_at "d"
      refine ⟨_, _, rfl, ha.at_ hs, ?_⟩
      wtm_at "d"
      refine ⟨.inl ⟨by omega, by omega⟩, ?_⟩
      wtm_at "d"
      rfl
    · wtm_at "d"
      unfold lessR at hk
      rw [tI, List.map_map] at hk
      exact hk
theorem c_led_row (B : Bl mg) (Df : Def K mg "led_row" 20 []) (C_power_at : Cal P w K mg base "power_at" 1 [] F_power_at) :
    Cal P w K mg base "led_row" 2 [] F_led_row := by
  have Sc : FnScope ["prime", "row", "spot", "back", "one"] ["prime", "row", "spot"] (defScope (tp 20)) := ⟨rfl, rfl, rfl, by decide +kernel, rfl, by decide +kernel, by decide +kernel⟩
  refine cal0 Df Sc (fun _ _ _ _ _ _ us hl => match us, hl with | [_, _, _], _ => rfl) (fun ss k h => ?_) fun f cdv A outer s H E hr ss k h => ?_
  · obtain ⟨_, _, _, _, rfl, _⟩ := h; rfl
  · obtain ⟨p, n, spot, row, rfl, hp, hn, hs, ha, hk⟩ := h
    have h2 := hp.two
    have hr0 := ha.at hs
    have hr1 := hr0.1
    have hr2 := hr0.2
    refine ds_cons (ds_set 3 Sc.nd (dv_sh (de_callR C_power_at hr ?_)))
    wtm_at "d"
    refine ⟨_, _, rfl, ha.at_ hs, ?_⟩
    wtm_at "d"
    have hb : 0 ≤ gt row spot ^ (p - 2).toNat % p ∧ gt row spot ^ (p - 2).toNat % p < p := ⟨Int.emod_nonneg _ (by omega), Int.emod_lt_of_pos _ (by omega)⟩
    refine (lc1 4 row .int (fun x => .int (x * (gt row spot ^ (p - 2).toNat % p) % p)) rfl Sc.nd (di_s (dis_tup 4 ?_)))
    wtm_at "d"
    refine ⟨by rw [ha.1]; omega, fun y hy s H C cl fp => ?_, ?_⟩
    · refine de_mod (de_mul ?_)
      wtm_at "d"
      refine ⟨.inr ⟨by omega, by omega⟩, ?_⟩
      wtm_at "d"
      rfl
    · wtm_at "d"
      unfold ledR at hk
      rw [tI, List.map_map] at hk
      exact hk
end
section
variable {P : Program} {w : World} {K : PySem.W.Frag} {mg : Str → Option Value} {base : Heap}
abbrev F_reduced_by : FS := fun ss k => ∃ (p : Int) (n m : Nat) (d : D) (rows : List (List Int)), ss = [.sh (.int p), .sh d, .sh (.int m)] ∧ (d = lR rows ∨ d = tR rows) ∧ PrmI p ∧ n ≤ 12 ∧ m ≤ n ∧ rows.length ≤ 40 ∧ (∀ r ∈ rows, RowOk p n r) ∧ k (tR (reducedBy p rows m))
abbrev F_lead_of : FS := fun ss k => ∃ (r : List Int), ss = [.sh (tI r)] ∧ r.length ≤ 12 ∧ (∃ i, i < r.length ∧ 0 < gt r i) ∧ k (.int (leadOf r))
abbrev F_cut_rows : FS := fun ss k => ∃ (n : Nat) (rows : List (List Int)) (pl : List Nat), ss = [.sh (tR rows), .sh (tN pl)] ∧ (∀ r ∈ rows, r.length = n) ∧ (∀ x ∈ pl, x < n) ∧ rows.length ≤ 40 ∧ pl.length ≤ 40 ∧ k (lR (cutRows rows pl))
theorem row_range (r : List Int) : r = (List.range r.length).map (gt r) := by
  refine List.ext_getElem (by simp) fun i h1 h2 => ?_
  rw [List.getElem_map, List.getElem_range]
  have := gt_get h1
  rw [List.getElem?_eq_getElem h1] at this
  exact Option.some.inj this
theorem enum_row (r : List Int) : enumD (r.map PyData.int) = (List.range r.length).map fun (i : Nat) => [PyData.int (i : Int), PyData.int (gt r i)] := by
  unfold enumD
  rw [List.length_map, rng_eq]
  have e : r.map PyData.int = (List.range r.length).map fun i => PyData.int (gt r i) := by
    conv => lhs; rw [row_range r]
    rw [List.map_map]; rfl
  rw [e, zipWith_map2]
  refine List.ext_getElem (by simp) fun i h1 h2 => ?_
  simp
theorem c_reduced_by (B : Bl mg) (Df : Def K mg "reduced_by" 21 []) (C_led_row : Cal P w K mg base "led_row" 2 [] F_led_row) (C_lessened_row : Cal P w K mg base "lessened_row" 1 [] F_lessened_row) :
    Cal P w K mg base "reduced_by" 3 [] F_reduced_by := by
  have Sc : FnScope ["prime", "rows", "wide", "left", "found", "spot", "firsts", "first", "row"] ["prime", "rows", "wide"] (defScope (tp 21)) := ⟨rfl, rfl, rfl, by decide +kernel, rfl, by decide +kernel, by decide +kernel⟩
  refine cal0 Df Sc (fun _ _ _ _ _ _ us hl => match us, hl with | [_, _, _], _ => rfl) (fun ss k h => ?_) fun f cdv A outer s H E hr ss k h => ?_
  · obtain ⟨_, _, _, _, _, rfl, _⟩ := h; rfl
  · obtain ⟨p, n, m, d, rows, rfl, hd, hp, hn, hmn, hl, hrows, hk⟩ := h
    have h2 := hp.two
    refine ds_mid (fun δ => δ = [some (.sh (.int p)), some (.sh d), some (.sh (.int m)), some (.sh (lR rows)), some (.sh (.list [])), none, none, none, none]) (ds_par 3 4 rfl Sc.nd (dv_sh (de_lst ?_))) fun δ' hJ => ?_
    · refine lc1 8 rows tI tI rfl Sc.nd ?_
      rcases hd with rfl | rfl
      · refine di_list 8 ?_
        wtm_at "d"
        refine ⟨fun y hy s H C cl fp => ?_, ?_⟩
        · wtm_at "d"
          rfl
        · refine dv_sh ?_
          wtm_at "d"
          rfl
      · refine di_s (dis_tup 8 ?_)
        wtm_at "d"
        refine ⟨fun y hy s H C cl fp => ?_, ?_⟩
        · wtm_at "d"
          rfl
        · refine dv_sh ?_
          wtm_at "d"
          rfl
    · subst hJ
      refine ds_cons (for1 5 (List.range m) (fun i => .int (i : Int)) (fun i δ => ∃ a b c, δ = [some (.sh (.int p)), some (.sh d), some (.sh (.int m)), some (.sh (lR (redBy p rows i).1)), some (.sh (lR (redBy p rows i).2)), a, b, c, none]) PassesOwn.never rfl Sc.nd (dis_rngN 5 B.range ?_))
      wtm_at "d"
      refine ⟨⟨_, _, _, rfl⟩, fun i y δ' hi hI => ?_, fun δ' hI => ?_⟩
      · obtain ⟨a, b, c, rfl⟩ := hI
        obtain ⟨hi1, hi2⟩ := List.getElem?_eq_some_iff.mp hi
        have hi1 : i < m := by simpa using hi1
        have hi2 : y = i := by simpa using hi2.symm
        subst hi2
        have ok := redBy_ok (n := n) hp hrows y
        have hyn : y < n := by omega
        refine ds_cons (slcf 6 8 (redBy p rows y).1 tI (fun r => decide (0 < gt r y)) tI rfl Sc.nd (di_list 8 ?_))
        wtm_at "d"
        refine ⟨by rw [ok.l]; omega, fun r hr' s H C cl fp => ?_, fun r hr' _ s H C cl fp => ?_, .inl ?_⟩
        · refine dt_cmp (dc_gt ?_)
          wtm_at "d"
          refine ⟨_, _, rfl, (ok.r1 r hr').at_ hyn, ?_⟩
          wtm_at "d"
          rfl
        · wtm_at "d"
          rfl
        · refine ds_one (ds_if (dt_cmp (dc_gt ?_)))
          wtm_at "d"
          have es := redBy_succ p rows y
          unfold redStep at es
          cases e : (redBy p rows y).1.filter (fun r => decide (0 < gt r y)) with
          | nil =>
            rw [e] at es
            have es1 : redBy p rows (y + 1) = redBy p rows y := es
            exact ino (by simp) (ds_nil ⟨some (.sh (.int y)), some (.sh (.list [])), c, by rw [es1]; rfl⟩)
          | cons fr fs =>
            rw [e] at es
            have hfr : fr ∈ (redBy p rows y).1 := (List.mem_filter.mp (e ▸ List.mem_cons_self)).1
            have hfo := ok.r1 fr hfr
            have hF := ledR_ok (spot := y) hp hfo
            refine iy (by simp) (ds_cons (ds_set 7 Sc.nd (dv_sh (de_callR C_led_row hr ?_))))
            wtm_at "d"
            refine ⟨p, n, y, fr, rfl, hp, hn, hyn, hfo, ?_⟩
            wtm_at "d"
            refine (slc1 3 8 (redBy p rows y).1 tI (fun r => tI (lessR p (ledR p y fr) y r)) rfl Sc.nd (di_list 8 ?_))
            wtm_at "d"
            refine ⟨by rw [ok.l]; omega, fun r hr' s H C cl fp => ?_, .inl ?_⟩
            · have h3 := ok.r1 r hr'
              refine de_callR C_lessened_row hr ?_
              wtm_at "d"
              exact ⟨p, n, y, r, _, rfl, hp, hn, hyn, h3, hF, rfl⟩
            · refine ds_one (ds_set 4 Sc.nd (dv_sh (de_lst (dl_list (dd_star (db_lst (lc1 8 (redBy p rows y).2 tI (fun r => tI (lessR p (ledR p y fr) y r)) rfl Sc.nd (di_list 8 ?_))))))))
              wtm_at "d"
              refine ⟨by have := ok.f; omega, fun r hr' s H C cl fp => ?_, ?_⟩
              · have h3 := ok.r2 r hr'
                refine de_callR C_lessened_row hr ?_
                wtm_at "d"
                exact ⟨p, n, y, r, _, rfl, hp, hn, hyn, h3, hF, rfl⟩
              · wtm_at "d"
                refine ⟨by have := ok.f; simp; omega, some (.sh (.int y)), some (.sh (.list ((fr :: fs).map tI))), some (.sh (tI (ledR p y fr))), ?_⟩
                rw [es]
                simp [lR, Function.comp_def]
      · obtain ⟨a, b, c, rfl⟩ := hI
        refine ds_one (ds_retD ?_)
        wtm_at "d"
        rw [List.length_range]
        exact hk
theorem c_lead_of (B : Bl mg) (Df : Def K mg "lead_of" 22 []) :
    Cal P w K mg base "lead_of" 1 [] F_lead_of := by
  have Sc : FnScope ["row", "spot", "one"] ["row"] (defScope (tp 22)) := ⟨rfl, rfl, rfl, by decide +kernel, rfl, by decide +kernel, by decide +kernel⟩
  refine cal0 Df Sc (fun _ _ _ _ _ _ us hl => match us, hl with | [_], _ => rfl) (fun ss k h => ?_) fun f cdv A outer s H E hr ss k h => ?_
  · obtain ⟨_, rfl, _⟩ := h; rfl
  · obtain ⟨r, rfl, hn, hx, hk⟩ := h
    refine ds_one (ds_retD (de_ix (db_lst (lc2f 1 2 (List.range r.length) (fun i => .int (i : Int)) (fun i => .int (gt r i)) (fun i => decide (0 < gt r i)) (fun i => .int (i : Int)) rfl Sc.nd (di_s (dis_enum 1 2 B.enumerate ?_))))))
    wtm_at "d"
    refine ⟨enum_row r, by rw [List.length_range]; omega, fun y _ s H C cl fp => ?_, fun y _ _ s H C cl fp => ?_, ?_⟩
    · wtm_at "d"
      rfl
    · wtm_at "d"
      rfl
    · wtm_at "d"
      unfold leadOf at hk
      cases e : (List.range r.length).filter fun i => decide (0 < gt r i) with
      | nil =>
        obtain ⟨i, hi, h0⟩ := hx
        have := List.filter_eq_nil_iff.mp e i (List.mem_range.mpr hi)
        exact absurd (decide_eq_true h0) this
      | cons a as =>
        rw [e] at hk
        exact ⟨_, _, rfl, at_head, hk⟩
theorem c_cut_rows (B : Bl mg) (Df : Def K mg "cut_rows" 25 []) :
    Cal P w K mg base "cut_rows" 1 [] F_cut_rows := by
  have Sc : FnScope ["rows", "places", "row", "place"] ["rows", "places"] (defScope (tp 25)) := ⟨rfl, rfl, rfl, by decide +kernel, rfl, by decide +kernel, by decide +kernel⟩
  refine cal0 Df Sc (fun _ _ _ _ _ _ us hl => match us, hl with | [_, _], _ => rfl) (fun ss k h => ?_) fun f cdv A outer s H E hr ss k h => ?_
  · obtain ⟨_, _, _, rfl, _⟩ := h; rfl
  · obtain ⟨n, rows, pl, rfl, h1, h2, h3, h4, hk⟩ := h
    refine ds_one (ds_retD (de_lst (lc1 2 rows tI (fun r => tI (pl.map (gt r))) rfl Sc.nd (di_s (dis_tup 2 ?_)))))
    wtm_at "d"
    refine ⟨fun r hr' s H C cl fp => ?_, ?_⟩
    · refine de_tup B.tuple (db_lst (lc1 3 pl (fun i => .int (i : Int)) (fun i => .int (gt r i)) rfl Sc.nd (di_s (dis_tup 3 ?_))))
      wtm_at "d"
      refine ⟨by rw [nI, List.map_map]; rfl, by omega, fun y hy s H C cl fp => ?_, ?_⟩
      · refine de_ix ?_
        wtm_at "d"
        refine ⟨_, _, rfl, at_row (by rw [h1 r hr']; exact h2 y hy), ?_⟩
        rfl
      · wtm_at "d"
        rw [tI, List.map_map]; rfl
    · unfold cutRows at hk
      rw [lR, List.map_map] at hk
      exact hk
end
section
variable {P : Program} {w : World} {K : PySem.W.Frag} {mg : Str → Option Value} {base : Heap}
abbrev F_kept_row : FS := fun ss k => ∃ (p : Int) (n free : Nat) (red : List (List Int)), ss = [.sh (.int p), .sh (tR red), .sh (.list ((nI (red.map leadOf)).map .int)), .sh (.int n), .sh (.int free)] ∧ PrmI p ∧ n ≤ 12 ∧ free < n ∧ red.length ≤ 12 ∧ Ech p n n red ∧ k (tI (keptOf p red n free))
abbrev F_null_by : FS := fun ss k => ∃ (p : Int) (n : Nat) (rows : List (List Int)), ss = [.sh (.int p), .sh (tR rows), .sh (.int n)] ∧ PrmI p ∧ n ≤ 12 ∧ rows.length ≤ 40 ∧ (∀ r ∈ rows, RowOk p n r) ∧ k (tR (nullBy p rows n))
abbrev F_sums_in : FS := fun ss k => ∃ (p : Int) (n : Nat) (rows : List (List Int)), ss = [.sh (bkD p n rows)] ∧ BookOk p n rows ∧ k (tR (reducedBy p rows n))
abbrev F_words_in : FS := fun ss k => ∃ (p : Int) (n : Nat) (rows : List (List Int)), ss = [.sh (bkD p n rows)] ∧ BookOk p n rows ∧ k (tR (nullBy p rows n))
abbrev F_places_in : FS := fun ss k => ∃ (r : List Int), ss = [.sh (tI r)] ∧ r.length ≤ 12 ∧ k (tN (spotsOf r.length r))
abbrev F_mended_at_once : FS := fun ss k => ∃ (G : List (List Nat)) (left : List Nat), ss = [.sh (.list (G.map tN)), .sh (tN left)] ∧ G.length ≤ 40 ∧ (∀ pl ∈ G, pl.length ≤ 12) ∧ left.Pairwise (· < ·) ∧ k (tN (mendedOf G left))
abbrev F_goings_by : FS := fun ss k => ∃ (n : Nat) (ties : List (List Int)) (lost : List Nat), ss = [.sh (tR ties), .sh (tN lost)] ∧ ties.length ≤ 40 ∧ (∀ x ∈ ties, x.length = n) ∧ n ≤ 12 ∧ LotOk n lost ∧ k (.tuple [.tuple ((goBy (ties.map (spotsOf n)) lost).1.map tN), tN (goBy (ties.map (spotsOf n)) lost).2])
theorem mem_nI {y : Nat} {l : List Nat} : (y : Int) ∈ nI l ↔ y ∈ l := by
  unfold nI
  rw [List.mem_map]
  exact ⟨fun ⟨a, h, e⟩ => by (have : a = y := by omega); rw [← this]; exact h, fun h => ⟨y, h, rfl⟩⟩
theorem zip_self {α : Type} : ∀ l : List α, l.zip l = l.map fun r => (r, r)
  | [] => rfl
  | a :: l => by rw [List.zip_cons_cons, List.map_cons, zip_self l]
theorem ixN_nat {m k : Nat} (h : k < m) : ixN m (k : Int) = some k := by
  unfold ixN
  rw [if_pos (by omega), if_pos (by omega), Int.toNat_natCast]
theorem kept_take (p : Int) (red : List (List Int)) (n free i : Nat) {r : List Int} (h : red[i]? = some r) :
    ((red.take (i + 1)).map fun r => (leadOf r, r)).foldl (kset p free) ((List.range n).map fun s => if s = free then 1 else 0) = kset p free (((red.take i).map fun r => (leadOf r, r)).foldl (kset p free) ((List.range n).map fun s => if s = free then 1 else 0)) (leadOf r, r) := by
  rw [List.take_succ, h, Option.toList_some, List.map_append, List.foldl_append]; rfl
theorem alone_len (G : List (List Nat)) (left : List Nat) : (aloneOf G left).length ≤ G.length := by
  unfold aloneOf
  induction G with
  | nil => exact Nat.le_refl _
  | cons g G ih =>
    rw [List.flatMap_cons, List.length_append, List.length_cons]
    split <;> simp_all <;> omega
theorem ss_mended {G : List (List Nat)} {left : List Nat} {out : List Int} (ha : left.Pairwise (· < ·)) (h : IsSS (nI (aloneOf G left)) out) : out = nI (mendedOf G left) := by
  have h2 : ∀ x ∈ out, 0 ≤ x := fun x hx => by
    obtain ⟨a, _, e⟩ := List.mem_map.mp ((h.2 x).mp hx); omega
  have h3 : out = nI (out.map Int.toNat) := by
    rw [nI, List.map_map]
    conv => lhs; rw [← List.map_id out]
    refine List.map_congr_left fun x hx => ?_
    show x = ((x.toNat : Nat) : Int)
    have := h2 x hx; omega
  rw [h3]
  congr 1
  refine asc_ext (List.pairwise_map.mpr (h.1.imp_of_mem fun {a b} ha hb hab => ?_)) (ha.filter _) fun a => ?_
  · have := h2 a ha; have := h2 b hb; omega
  · rw [mem_mended, ← mem_nI, ← mem_nI, ← h3, h.2]
theorem c_kept_row (B : Bl mg) (Df : Def K mg "kept_row" 23 []) :
    Cal P w K mg base "kept_row" 1 [] F_kept_row := by
  have Sc : FnScope ["prime", "reduced", "leads", "wide", "free", "found", "spot", "lead", "row"] ["prime", "reduced", "leads", "wide", "free"] (defScope (tp 23)) := ⟨rfl, rfl, rfl, by decide +kernel, rfl, by decide +kernel, by decide +kernel⟩
  refine cal0 Df Sc (fun _ _ _ _ _ _ us hl => match us, hl with | [_, _, _, _, _], _ => rfl) (fun ss k h => ?_) fun f cdv A outer s H E hr ss k h => ?_
  · obtain ⟨_, _, _, _, rfl, _⟩ := h; rfl
  · obtain ⟨p, n, free, red, rfl, hp, hn, hf, hl, hE, hk⟩ := h
    have h2 := hp.two
    refine ds_cons (slc1 5 6 (List.range n) (fun i => .int (i : Int)) (fun s => .int (if s = free then 1 else 0)) rfl Sc.nd (di_s (dis_rngN 6 B.range ?_)))
    wtm_at "d"
    refine ⟨by rw [List.length_range]; omega, fun y hy s H C cl fp => ?_, .inr ?_⟩
    · refine de_if (dt_cmp (dc_eqI ?_))
      wtm_at "d"
      refine isd (fun e => ?_) fun e => ?_
      · wtm_at "d"
        rw [if_pos (by omega)]
      · wtm_at "d"
        rw [if_neg (by omega)]
    · refine ds_cons (for2 7 8 red (fun r => .int (leadOf r : Int)) tI (fun i δ => ∃ a b c, δ = [some (.sh (.int p)), some (.sh (tR red)), some (.sh (.list ((nI (red.map leadOf)).map .int))), some (.sh (.int n)), some (.sh (.int free)), some (.own ((((red.take i).map fun r => (leadOf r, r)).foldl (kset p free) ((List.range n).map fun s => if s = free then 1 else 0)).map .int)), a, b, c]) PassesOwn.never rfl Sc.nd (dis_zipM 7 8 B.zip ?_))
      wtm_at "d"
      refine ⟨by simp, ?_, ⟨none, none, none, by rw [List.take_zero]; simp [startD, Function.comp_def]⟩, fun i y δ' hi hI => ?_, fun δ' hI => ?_⟩
      · rw [nI, List.map_map, List.map_map, zipWith_map2]
        rw [zip_self, List.map_map]; rfl
      · obtain ⟨a, b, c, rfl⟩ := hI
        have hy := List.mem_of_getElem? hi
        have hlr := hE.lead y hy
        have hok := hE.ok y hy
        refine ds_one (ds_store 5 rfl (de_mod (de_neg ?_)))
        wtm_at "d"
        refine ⟨_, _, rfl, hok.at_ hf, ?_⟩
        wtm_at "d"
        refine ⟨_, leadOf y, rfl, ?_, ?_⟩
        · rw [List.length_map, kfold_len]
          exact ixN_nat (by simpa using hlr.1)
        · rw [← List.map_set, kept_take p red n free i hi]
          exact ⟨_, _, _, rfl⟩
      · obtain ⟨a, b, c, rfl⟩ := hI
        refine ds_one (ds_retD ?_)
        wtm_at "d"
        rw [List.take_length, ← kept_eq]
        exact hk
theorem c_null_by (B : Bl mg) (Df : Def K mg "null_by" 24 []) (C_reduced_by : Cal P w K mg base "reduced_by" 3 [] F_reduced_by) (C_lead_of : Cal P w K mg base "lead_of" 1 [] F_lead_of) (C_kept_row : Cal P w K mg base "kept_row" 1 [] F_kept_row) :
    Cal P w K mg base "null_by" 4 [] F_null_by := by
  have Sc : FnScope ["prime", "rows", "wide", "reduced", "leads", "frees", "row", "spot", "free"] ["prime", "rows", "wide"] (defScope (tp 24)) := ⟨rfl, rfl, rfl, by decide +kernel, rfl, by decide +kernel, by decide +kernel⟩
  refine cal0 Df Sc (fun _ _ _ _ _ _ us hl => match us, hl with | [_, _, _], _ => rfl) (fun ss k h => ?_) fun f cdv A outer s H E hr ss k h => ?_
  · obtain ⟨_, _, _, rfl, _⟩ := h; rfl
  · obtain ⟨p, n, rows, rfl, hp, hn, hl, hrows, hk⟩ := h
    have h2 := hp.two
    have hE := reducedBy_ech hp hrows
    have hlen := (reducedBy_ok hp hrows n).1
    have hpos := hE.pos
    refine ds_cons (ds_set 3 Sc.nd (dv_sh (de_callR C_reduced_by hr ?_)))
    wtm_at "d"
    refine ⟨p, n, n, _, rows, rfl, .inr rfl, hp, hn, Nat.le_refl _, hl, hrows, ?_⟩
    refine ds_cons (ds_set 4 Sc.nd (dv_sh (de_lst (lc1 6 (reducedBy p rows n) tI (fun r => .int (leadOf r : Int)) rfl Sc.nd (di_s (dis_tup 6 ?_))))))
    wtm_at "d"
    refine ⟨fun r hr' s H C cl fp => ?_, ?_⟩
    · refine de_callR C_lead_of hr ?_
      wtm_at "d"
      exact ⟨by rw [(hE.ok r hr').1]; omega, hpos r hr', rfl⟩
    · have eL : (reducedBy p rows n).map (fun r => PyData.int (leadOf r : Int)) = (nI ((reducedBy p rows n).map leadOf)).map .int := by simp [nI, Function.comp_def]
      rw [eL]
      refine ds_cons (slcf 5 7 (List.range n) (fun i => .int (i : Int)) (fun s => decide (s ∉ (reducedBy p rows n).map leadOf)) (fun i => .int (i : Int)) rfl Sc.nd (di_s (dis_rngN 7 B.range ?_)))
      wtm_at "d"
      refine ⟨by rw [List.length_range]; omega, fun y hy s H C cl fp => ?_, fun y hy _ s H C cl fp => ?_, .inl ?_⟩
      · refine dt_cmp (dc_notin ?_)
        wtm_at "d"
        simp only [mem_nI, decide_not]
      · wtm_at "d"
        rfl
      · refine ds_one (ds_retD (de_callR C_reduced_by hr (da_cons (de_var 0 rfl (da_cons (de_lst (lc1 8 (freesOf n ((reducedBy p rows n).map leadOf)) (fun i => .int (i : Int)) (fun f => tI (keptOf p (reducedBy p rows n) n f)) rfl Sc.nd (di_list 8 ?_))))))))
        wtm_at "d"
        have hfl : (freesOf n ((reducedBy p rows n).map leadOf)).length ≤ n := by
          have := List.length_filter_le (fun s => decide (s ∉ (reducedBy p rows n).map leadOf)) (List.range n)
          rw [List.length_range] at this; exact this
        refine ⟨by omega, fun y hy s H C cl fp => ?_, ?_⟩
        · have hyn : y < n := List.mem_range.mp (List.mem_filter.mp hy).1
          refine de_callR C_kept_row hr ?_
          wtm_at "d"
          first | rfl | exact ⟨p, n, y, reducedBy p rows n, rfl, hp, hn, hyn, by omega, hE, rfl⟩
        · wtm_at "d"
          refine ⟨p, n, n, _, (freesOf n ((reducedBy p rows n).map leadOf)).map (keptRow p (reducedBy p rows n) ((reducedBy p rows n).map leadOf) n), rfl, .inl (by rw [lR, List.map_map]; rfl), hp, hn, Nat.le_refl _, by rw [List.length_map]; omega, fun r hr => ?_, hk⟩
          obtain ⟨f, _, rfl⟩ := List.mem_map.mp hr
          exact kept_ok hp hE f
theorem c_sums_in (B : Bl mg) (Df : Def K mg "sums_in" 27 []) (C_reduced_by : Cal P w K mg base "reduced_by" 3 [] F_reduced_by) :
    Cal P w K mg base "sums_in" 4 [] F_sums_in := by
  have Sc : FnScope ["book"] ["book"] (defScope (tp 27)) := ⟨rfl, rfl, rfl, by decide +kernel, rfl, by decide +kernel, by decide +kernel⟩
  refine cal0 Df Sc (fun _ _ _ _ _ _ us hl => match us, hl with | [_], _ => rfl) (fun ss k h => ?_) fun f cdv A outer s H E hr ss k h => ?_
  · obtain ⟨_, _, _, rfl, _⟩ := h; rfl
  · obtain ⟨p, n, rows, rfl, hb, hk⟩ := h
    refine ds_one (ds_retD (de_callR C_reduced_by hr ?_))
    wtm_at "d"
    exact ⟨p, n, n, _, rows, rfl, .inr rfl, hb.prm, hb.n2, Nat.le_refl _, by have := hb.few; omega, fun r hr => (hb.sum r hr).1, hk⟩
theorem c_words_in (B : Bl mg) (Df : Def K mg "words_in" 28 []) (C_null_by : Cal P w K mg base "null_by" 4 [] F_null_by) :
    Cal P w K mg base "words_in" 5 [] F_words_in := by
  have Sc : FnScope ["book"] ["book"] (defScope (tp 28)) := ⟨rfl, rfl, rfl, by decide +kernel, rfl, by decide +kernel, by decide +kernel⟩
  refine cal0 Df Sc (fun _ _ _ _ _ _ us hl => match us, hl with | [_], _ => rfl) (fun ss k h => ?_) fun f cdv A outer s H E hr ss k h => ?_
  · obtain ⟨_, _, _, rfl, _⟩ := h; rfl
  · obtain ⟨p, n, rows, rfl, hb, hk⟩ := h
    refine ds_one (ds_retD (de_callR C_null_by hr ?_))
    wtm_at "d"
    exact ⟨hb.prm, hb.n2, by have := hb.few; omega, fun r hr => (hb.sum r hr).1, hk⟩
theorem c_places_in (B : Bl mg) (Df : Def K mg "places_in" 30 []) :
    Cal P w K mg base "places_in" 1 [] F_places_in := by
  have Sc : FnScope ["numbers", "place", "number"] ["numbers"] (defScope (tp 30)) := ⟨rfl, rfl, rfl, by decide +kernel, rfl, by decide +kernel, by decide +kernel⟩
  refine cal0 Df Sc (fun _ _ _ _ _ _ us hl => match us, hl with | [_], _ => rfl) (fun ss k h => ?_) fun f cdv A outer s H E hr ss k h => ?_
  · obtain ⟨_, rfl, _⟩ := h; rfl
  · obtain ⟨r, rfl, hn, hk⟩ := h
    refine ds_one (ds_retD (de_tup B.tuple (db_lst (lc2f 1 2 (List.range r.length) (fun i => .int (i : Int)) (fun i => .int (gt r i)) (fun i => decide (0 < gt r i)) (fun i => .int (i : Int)) rfl Sc.nd (di_s (dis_enum 1 2 B.enumerate ?_))))))
    wtm_at "d"
    refine ⟨enum_row r, by rw [List.length_range]; omega, fun y _ s H C cl fp => ?_, fun y _ _ s H C cl fp => ?_, ?_⟩
    · wtm_at "d"
      rfl
    · wtm_at "d"
      rfl
    · wtm_at "d"
      unfold spotsOf at hk
      rw [tN, tI, nI, List.map_map] at hk
      exact hk
theorem c_mended_at_once (B : Bl mg) (Df : Def K mg "mended_at_once" 31 []) :
    Cal P w K mg base "mended_at_once" 1 [] F_mended_at_once := by
  have Sc : FnScope ["spots", "lost", "found", "places", "only", "place"] ["spots", "lost"] (defScope (tp 31)) := ⟨rfl, rfl, rfl, by decide +kernel, rfl, by decide +kernel, by decide +kernel⟩
  refine cal0 Df Sc (fun _ _ _ _ _ _ us hl => match us, hl with | [_, _], _ => rfl) (fun ss k h => ?_) fun f cdv A outer s H E hr ss k h => ?_
  · obtain ⟨_, _, rfl, _⟩ := h; rfl
  · obtain ⟨G, left, rfl, hG, hpl, ha, hk⟩ := h
    refine ds_cons (ds_set 2 Sc.nd (dv_own (dl_list (dd_nil ⟨Nat.zero_le _, ?_⟩))))
    refine ds_cons (for1 3 G tN (fun i δ => ∃ a b, δ = [some (.sh (.list (G.map tN))), some (.sh (tN left)), some (.own ((nI (aloneOf (G.take i) left)).map .int)), a, b, none]) PassesOwn.never rfl Sc.nd (dis_list 3 ?_))
    wtm_at "d"
    refine ⟨⟨none, none, rfl⟩, fun i pl δ' hi hI => ?_, fun δ' hI => ?_⟩
    · obtain ⟨a, b, rfl⟩ := hI
      have hplm := hpl pl (List.mem_of_getElem? hi)
      have htk : aloneOf (G.take (i + 1)) left = aloneOf (G.take i) left ++ (if (onlyOf pl left).length = 1 then onlyOf pl left else []) := by
        unfold aloneOf
        rw [List.take_succ, hi, Option.toList_some, List.flatMap_append]; simp
      have hlen : (aloneOf (G.take i) left).length ≤ i := Nat.le_trans (alone_len _ _) (by rw [List.length_take]; omega)
      have hil : i < G.length := (List.getElem?_eq_some_iff.mp hi).1
      refine ds_cons (slcf 4 5 pl (fun i => .int (i : Int)) (fun x => decide (x ∈ left)) (fun i => .int (i : Int)) rfl Sc.nd (di_s (dis_tup 5 ?_)))
      wtm_at "d"
      refine ⟨by rw [nI, List.map_map]; rfl, by omega, fun y _ s H C cl fp => ?_, fun y _ _ s H C cl fp => ?_, .inl ?_⟩
      · refine dt_cmp (dc_in ?_)
        wtm_at "d"
        simp only [mem_nI]
      · wtm_at "d"
        rfl
      · refine ds_one (ds_extend 2 rfl (db_of (de_if (dt_cmp (dc_eqI ?_)))))
        wtm_at "d"
        have el : ((pl.filter fun x => decide (x ∈ left)).map fun (i : Nat) => PyData.int (i : Int)) = (nI (onlyOf pl left)).map .int := by
          rw [nI, List.map_map]; rfl
        rw [el]
        refine isd (fun e => ?_) fun e => ?_
        · wtm_at "d"
          have e1 : (onlyOf pl left).length = 1 := by
            have : (((nI (onlyOf pl left)).map PyData.int).length : Int) = 1 := e
            rw [nI, List.length_map, List.length_map] at this; omega
          rw [if_pos e1] at htk
          refine ⟨by rw [nI, nI, List.length_map, List.length_map, List.length_map, List.length_map]; omega, some (.sh (tN pl)), some (.sh (.list ((nI (onlyOf pl left)).map .int))), ?_⟩
          rw [htk, nI, nI, nI, List.map_append, List.map_append]
          rfl
        · wtm_at "d"
          have e1 : ¬ (onlyOf pl left).length = 1 := fun z => by
            refine e ?_
            show (((nI (onlyOf pl left)).map PyData.int).length : Int) = 1
            rw [nI, List.length_map, List.length_map]; omega
          rw [if_neg e1, List.append_nil] at htk
          refine ⟨by rw [nI, List.length_map, List.length_map]; show _ + 0 ≤ _; omega, some (.sh (tN pl)), some (.sh (.list ((nI (onlyOf pl left)).map .int))), ?_⟩
          rw [htk, List.append_nil]
          rfl
    · obtain ⟨a, b, rfl⟩ := hI
      rw [List.take_length]
      refine ds_one (ds_retD (de_tup B.tuple (db_lst (dl_sset rfl B.sorted B.set ?_))))
      wtm_at "d"
      refine ⟨by rw [nI, List.length_map]; have := alone_len G left; omega, fun out ho => ?_⟩
      rw [ss_mended ha ho]
      exact ⟨_, .inl rfl, hk⟩
end
section
variable {P : Program} {w : World} {K : PySem.W.Frag} {mg : Str → Option Value} {base : Heap}
abbrev F_places_but : FS := fun ss k => ∃ (p : Int) (n : Nat) (rows : List (List Int)) (lost : List Nat), ss = [.sh (bkD p n rows), .sh (tN lost)] ∧ n ≤ 12 ∧ k (.list ((nI (keptOfLot n lost)).map .int))
abbrev F_row_put_back : FS := fun ss k => ∃ (n : Nat) (r : List Int) (o : List Nat), ss = [.sh (tI r), .sh (tN o)] ∧ n ≤ 12 ∧ r.length = n ∧ IsOrd n o ∧ k (tI (putBack r o))
abbrev F_rows_with_ahead : FS := fun ss k => ∃ (p : Int) (n : Nat) (rows rs : List (List Int)) (a : List Nat) (d : D), ss = [.sh (bkD p n rows), .sh (tR rs), .sh d] ∧ isSeq d ((nI a).map .int) ∧ PrmI p ∧ n ≤ 12 ∧ rs.length ≤ 40 ∧ (∀ r ∈ rs, RowOk p n r) ∧ a.Nodup ∧ (∀ x ∈ a, x < n) ∧ k (.tuple [tR (rowsAhead p n rs a), tN (orderOf n a)])
abbrev F_alone_pairs : FS := fun ss k => ∃ (p : Int) (n : Nat) (rows : List (List Int)) (lost : List Nat), ss = [.sh (bkD p n rows), .sh (tN lost)] ∧ BookOk p n rows ∧ LotOk n lost ∧ k (.list ((alonePairs p n rows lost).map fun q => .tuple [.int (q.1 : Int), tI q.2]))
abbrev F_words_within : FS := fun ss k => ∃ (p : Int) (n : Nat) (rows : List (List Int)) (lost : List Nat), ss = [.sh (bkD p n rows), .sh (tN lost)] ∧ BookOk p n rows ∧ LotOk n lost ∧ k (lR (wordsWithin p n rows lost))
theorem look_at {kvs : List (Int × D)} {i : Int} {d : D} (nd : (kvs.map (·.1)).Nodup) {j : Nat} (h : kvs[j]? = some (i, d)) : lookI kvs i = some d := by
  induction kvs generalizing j with
  | nil => simp at h
  | cons q kvs ih =>
    rw [List.map_cons, List.nodup_cons] at nd
    unfold lookI
    cases j with
    | zero =>
      have : q = (i, d) := by simpa using h
      subst this
      rw [List.find?_cons_of_pos (by simp)]; rfl
    | succ j =>
      have h' : kvs[j]? = some (i, d) := by simpa using h
      have hm : i ∈ kvs.map (·.1) := List.mem_map.mpr ⟨_, List.mem_of_getElem? h', rfl⟩
      have hne : q.1 ≠ i := fun z => nd.1 (z ▸ hm)
      rw [List.find?_cons_of_neg (by simpa using hne)]
      exact ih nd.2 h'
theorem c_goings_by (B : Bl mg) (Df : Def K mg "goings_by" 32 []) (C_places_in : Cal P w K mg base "places_in" 1 [] F_places_in) (C_mended_at_once : Cal P w K mg base "mended_at_once" 1 [] F_mended_at_once) :
    Cal P w K mg base "goings_by" 2 [] F_goings_by := by
  have Sc : FnScope ["sums", "lost", "spots", "found", "left", "mended", "numbers", "place"] ["sums", "lost"] (defScope (tp 32)) := ⟨rfl, rfl, rfl, by decide +kernel, rfl, by decide +kernel, by decide +kernel⟩
  refine cal0 Df Sc (fun _ _ _ _ _ _ us hl => match us, hl with | [_, _], _ => rfl) (fun ss k h => ?_) fun f cdv A outer s H E hr ss k h => ?_
  · obtain ⟨_, _, _, rfl, _⟩ := h; rfl
  · obtain ⟨n, ties, lost, rfl, ht, hlen, hn, hlot, hk⟩ := h
    have ha := hlot.1
    have hll := lot_len hlot
    refine ds_cons (slc1 2 6 ties tI (fun r => tN (spotsOf n r)) rfl Sc.nd (di_s (dis_tup 6 ?_)))
    wtm_at "d"
    refine ⟨fun y hy s H C cl fp => ?_, .inl ?_⟩
    · refine de_callR C_places_in hr ?_
      wtm_at "d"
      exact ⟨by rw [hlen y hy]; omega, by rw [hlen y hy]⟩
    have eG : ties.map (fun r => tN (spotsOf n r)) = (ties.map (spotsOf n)).map tN := by rw [List.map_map]; rfl
    rw [eG]
    generalize hGd : ties.map (spotsOf n) = G at *
    have hG1 : G.length ≤ 40 := by rw [← hGd, List.length_map]; exact ht
    have hG2 : ∀ pl ∈ G, pl.length ≤ 12 := fun pl hpl => by
      rw [← hGd] at hpl
      obtain ⟨x, _, rfl⟩ := List.mem_map.mp hpl
      have := List.length_filter_le (fun s => decide (0 < gt x s)) (List.range n)
      rw [List.length_range] at this
      exact Nat.le_trans this hn
    refine ds_cons (ds_par 3 4 rfl Sc.nd (dv_sh ?_))
    wtm_at "d"
    refine ds_set 5 Sc.nd (dv_sh (de_callR C_mended_at_once hr ?_))
    wtm_at "d"
    refine ds_while PassesOwn.never (fun m δ => ∃ (found : List (List Nat)) (left : List Nat), δ = [some (.sh (tR ties)), some (.sh (tN lost)), some (.sh (.list (G.map tN))), some (.sh (.list (found.map tN))), some (.sh (tN left)), some (.sh (tN (mendedOf G left))), none, none] ∧
      left.Pairwise (· < ·) ∧ found ++ (goBy G left).1 = (goBy G lost).1 ∧ (goBy G left).2 = (goBy G lost).2 ∧ m = left.length ∧ found.length + left.length ≤ 12) lost.length ⟨[], lost, rfl, ha, rfl, rfl, rfl, by show 0 + _ ≤ _; omega⟩ fun m δ' hI => ?_
    obtain ⟨found, left, rfl, hla, h1, h2, rfl, h3⟩ := hI
    refine dt_cmp (dc_gt ?_)
    wtm_at "d"
    have elen : (((nI (mendedOf G left)).map PyData.int).length : Int) = (mendedOf G left).length := by rw [nI, List.length_map, List.length_map]
    rw [elen]
    refine isd (fun e => ?_) fun e => ?_
    · have hne : mendedOf G left ≠ [] := fun z => by rw [z] at e; simp at e
      have hlt := mended_less hne
      rw [goBy_go hne] at h1 h2
      refine ds_cons (ds_set 3 Sc.nd (dv_sh ?_))
      wtm_at "d"
      refine ⟨by rw [List.length_append, List.length_map]; show _ + 1 ≤ _; omega, ?_⟩
      refine ds_cons (ds_set 4 Sc.nd (dv_sh (de_tup B.tuple (db_lst (lcf 7 left (fun i => .int (i : Int)) (fun x => decide (x ∉ mendedOf G left)) (fun i => .int (i : Int)) rfl Sc.nd (di_s (dis_tup 7 ?_)))))))
      wtm_at "d"
      refine ⟨by rw [nI, List.map_map]; rfl, by omega, fun y _ s H C cl fp => ?_, fun y _ _ s H C cl fp => ?_, ?_⟩
      · refine dt_cmp (dc_notin ?_)
        wtm_at "d"
        simp only [mem_nI, decide_not]
      · wtm_at "d"
        rfl
      · wtm_at "d"
        have el : ((left.filter fun x => decide (x ∉ mendedOf G left)).map fun (i : Nat) => PyData.int (i : Int)) = (nI (lessOf left (mendedOf G left))).map .int := by
          rw [nI, List.map_map]; rfl
        rw [el]
        refine ds_set 5 Sc.nd (dv_sh (de_callR C_mended_at_once hr ?_))
        wtm_at "d"
        have hla2 : (lessOf left (mendedOf G left)).Pairwise (· < ·) := hla.filter _
        refine ⟨hla2, ds_nil ⟨_, hlt, found ++ [mendedOf G left], lessOf left (mendedOf G left), ?_, hla2, ?_, h2, rfl, ?_⟩⟩
        · rw [List.map_append]; rfl
        · rw [← h1]; simp
        · rw [List.length_append]; show _ + 1 + _ ≤ _; omega
    · have hne : mendedOf G left = [] := List.length_eq_zero_iff.mp (by omega)
      rw [goBy_stop hne] at h1 h2
      refine ds_one (ds_retD ?_)
      wtm_at "d"
      rw [← h1, ← h2] at hk
      simp only [List.append_nil] at hk
      exact hk
theorem c_places_but (B : Bl mg) (Df : Def K mg "places_but" 34 []) :
    Cal P w K mg base "places_but" 1 [] F_places_but := by
  have Sc : FnScope ["book", "lost", "place"] ["book", "lost"] (defScope (tp 34)) := ⟨rfl, rfl, rfl, by decide +kernel, rfl, by decide +kernel, by decide +kernel⟩
  refine cal0 Df Sc (fun _ _ _ _ _ _ us hl => match us, hl with | [_, _], _ => rfl) (fun ss k h => ?_) fun f cdv A outer s H E hr ss k h => ?_
  · obtain ⟨_, _, _, _, rfl, _⟩ := h; rfl
  · obtain ⟨p, n, rows, lost, rfl, hn, hk⟩ := h
    refine ds_one (ds_retD (de_lst (lcf 2 (List.range n) (fun i => .int (i : Int)) (fun s => decide (s ∉ lost)) (fun i => .int (i : Int)) rfl Sc.nd (di_s (dis_rngN 2 B.range ?_)))))
    wtm_at "d"
    refine ⟨by rw [List.length_range]; omega, fun y hy s H C cl fp => ?_, fun y hy _ s H C cl fp => ?_, ?_⟩
    · refine dt_cmp (dc_notin ?_)
      wtm_at "d"
      simp only [mem_nI, decide_not]
    · wtm_at "d"
      rfl
    · rw [nI, List.map_map] at hk
      exact hk
theorem c_row_put_back (B : Bl mg) (Df : Def K mg "row_put_back" 35 []) :
    Cal P w K mg base "row_put_back" 1 [] F_row_put_back := by
  have Sc : FnScope ["row", "places", "table", "place", "one"] ["row", "places"] (defScope (tp 35)) := ⟨rfl, rfl, rfl, by decide +kernel, rfl, by decide +kernel, by decide +kernel⟩
  refine cal0 Df Sc (fun _ _ _ _ _ _ us hl => match us, hl with | [_, _], _ => rfl) (fun ss k h => ?_) fun f cdv A outer s H E hr ss k h => ?_
  · obtain ⟨_, _, _, rfl, _⟩ := h; rfl
  · obtain ⟨n, r, o, rfl, hn, hrl, ho, hk⟩ := h
    have hol := ho.len
    refine ds_cons (ds_set 2 Sc.nd (dv_dc (js := [3, 4]) (own := [("place", 3), ("one", 4)]) (tup := true) rfl Sc.nd (blkOk_by (by kernel_rfl)) rfl (by decide) (tg2 3 4 rfl Sc.nd) (di_s (dis_zipT 3 4 B.zip ?_))))
    wtm_at "d"
    rw [zipWith_map2]
    have hzl : ((nI o).zip r).length = n := by rw [List.length_zip, nI, List.length_map, hol, hrl, Nat.min_self]
    have hz1 : ((nI o).zip r).map (·.1) = nI o := by rw [List.map_fst_zip]; rw [nI, List.length_map]; omega
    refine ⟨((nI o).zip r).map fun q => (q.1, PyData.int q.2), by rw [List.length_map, List.length_map], by rw [List.length_map]; omega, ?_, fun i ds q h1 h2 => ?_, ?_⟩
    · rw [List.map_map]
      show (((nI o).zip r).map fun q => q.1).Nodup
      rw [hz1]
      exact List.pairwise_map.mpr (ho.nd.imp fun h => by omega)
    · rw [List.getElem?_map] at h1 h2
      cases hq : ((nI o).zip r)[i]? with
      | none => rw [hq] at h1; cases h1
      | some z =>
        rw [hq] at h1 h2
        cases h1; cases h2
        refine ⟨fun s H C cl fp => ?_, fun s H C cl fp => ?_⟩
        · wtm_at "d"
          rfl
        · wtm_at "d"
          rfl
    · refine ds_one (ds_retD (de_tup B.tuple (db_lst (lc1 3 (List.range n) (fun i => .int (i : Int)) (fun s => .int (gt r (o.idxOf s))) rfl Sc.nd (di_s (dis_rngN 3 B.range ?_))))))
      wtm_at "d"
      have e0 : (((nI o).map PyData.int).length) = n := by rw [nI, List.length_map, List.length_map]; exact hol
      refine ⟨by rw [e0]; omega, by rw [e0], by rw [List.length_range]; omega, fun y hy s H C cl fp => ?_, ?_⟩
      · have hyn : y < n := List.mem_range.mp hy
        refine de_tab 2 (hu1_of hr) rfl ?_
        wtm_at "d"
        refine ⟨_, _, rfl, look_at ?_ (j := o.idxOf y) ?_, rfl⟩
        · rw [List.map_map]
          show (((nI o).zip r).map fun q => q.1).Nodup
          rw [hz1]
          exact List.pairwise_map.mpr (ho.nd.imp fun h => by omega)
        · have hi := ho.idx hyn
          have e1 : (nI o)[o.idxOf y]? = some (y : Int) := by
            rw [nI, List.getElem?_map, List.getElem?_eq_getElem (by omega)]
            have := hi.2
            rw [List.getD_eq_getElem?_getD, List.getElem?_eq_getElem (by omega)] at this
            show some (((o[o.idxOf y]'_ : Nat)) : Int) = _
            exact congrArg (fun z : Nat => some (z : Int)) this
          have e2 : ((nI o).zip r)[o.idxOf y]? = some ((y : Int), gt r (o.idxOf y)) := List.getElem?_zip_eq_some.mpr ⟨e1, gt_get (by omega)⟩
          rw [List.getElem?_map, e2]
          rfl
      · wtm_at "d"
        unfold putBack at hk
        rw [tI, List.map_map, hol] at hk
        exact hk
theorem c_rows_with_ahead (B : Bl mg) (Df : Def K mg "rows_with_ahead" 36 []) (C_reduced_by : Cal P w K mg base "reduced_by" 3 [] F_reduced_by) (C_cut_rows : Cal P w K mg base "cut_rows" 1 [] F_cut_rows) :
    Cal P w K mg base "rows_with_ahead" 4 [] F_rows_with_ahead := by
  have Sc : FnScope ["book", "rows", "ahead", "order", "place"] ["book", "rows", "ahead"] (defScope (tp 36)) := ⟨rfl, rfl, rfl, by decide +kernel, rfl, by decide +kernel, by decide +kernel⟩
  refine cal0 Df Sc (fun _ _ _ _ _ _ us hl => match us, hl with | [_, _, _], _ => rfl) (fun ss k h => ?_) fun f cdv A outer s H E hr ss k h => ?_
  · obtain ⟨_, _, _, _, _, _, rfl, _⟩ := h; rfl
  · obtain ⟨p, n, rows, rs, a, d, rfl, hd, hp, hn, hl, hrs, hnd, hlt, hk⟩ := h
    have ho := orderOf_ok hnd hlt
    have hol := ho.len
    have hal : a.length ≤ n := by rw [← hol]; unfold orderOf; rw [List.length_append]; omega
    refine ds_cons (ds_set 3 Sc.nd (dv_sh (de_tuple (dd_star (db_of (de_var 2 rfl ?_))))))
    refine ⟨_, hd, dd_star (db_lst (lcf 4 (List.range n) (fun i => .int (i : Int)) (fun s => decide (s ∉ a)) (fun i => .int (i : Int)) rfl Sc.nd (di_s (dis_rngN 4 B.range ?_))))⟩
    wtm_at "d"
    refine ⟨by rw [List.length_range]; omega, fun y hy s H C cl fp => ?_, fun y hy _ s H C cl fp => ?_, ?_⟩
    · refine dt_cmp (dc_notin ?_)
      wtm_at "d"
      refine ⟨nI a, hd, ?_⟩
      simp only [mem_nI, decide_not]
    · wtm_at "d"
      rfl
    · wtm_at "d"
      have el : (nI a).map PyData.int ++ (((List.range n).filter fun s => decide (s ∉ a)).map fun (i : Nat) => PyData.int (i : Int)) = (nI (orderOf n a)).map .int := by
        unfold orderOf nI
        rw [List.map_append, List.map_append, List.map_map, List.map_map]; rfl
      rw [List.append_nil, el]
      have hle : ((nI (orderOf n a)).map PyData.int).length ≤ 100000 := by rw [nI, List.length_map, List.length_map]; omega
      have hcl : (cutRows rs (orderOf n a)).length ≤ 40 := by unfold cutRows; rw [List.length_map]; exact hl
      refine ⟨hle, ds_one (ds_retD (de_tuple (dd_cons (de_callR C_reduced_by hr (da_cons ?_)))))⟩
      wtm_at "d"
      refine de_callR C_cut_rows hr ?_
      wtm_at "d"
      refine ⟨n, rs, orderOf n a, rfl, fun r hr => (hrs r hr).1, fun x hx => (ho.mem x).mp hx, hl, by omega, ?_⟩
      wtm_at "d"
      refine ⟨p, n, n, _, cutRows rs (orderOf n a), rfl, .inl rfl, hp, hn, Nat.le_refl _, hcl, cut_ok hrs ho, ?_⟩
      wtm_at "d"
      exact hk
end
section
variable {P : Program} {w : World} {K : PySem.W.Frag} {mg : Str → Option Value} {base : Heap}
theorem c_alone_pairs (B : Bl mg) (Df : Def K mg "alone_pairs" 37 []) (C_sums_in : Cal P w K mg base "sums_in" 4 [] F_sums_in) (C_rows_with_ahead : Cal P w K mg base "rows_with_ahead" 4 [] F_rows_with_ahead) (C_row_put_back : Cal P w K mg base "row_put_back" 1 [] F_row_put_back) :
    Cal P w K mg base "alone_pairs" 5 [] F_alone_pairs := by
  have Sc : FnScope ["book", "lost", "rows", "order", "found", "row", "spots", "spot"] ["book", "lost"] (defScope (tp 37)) := ⟨rfl, rfl, rfl, by decide +kernel, rfl, by decide +kernel, by decide +kernel⟩
  refine cal0 Df Sc (fun _ _ _ _ _ _ us hl => match us, hl with | [_, _], _ => rfl) (fun ss k h => ?_) fun f cdv A outer s H E hr ss k h => ?_
  · obtain ⟨_, _, _, _, rfl, _⟩ := h; rfl
  · obtain ⟨p, n, rows, lost, rfl, hb, hlot, hk⟩ := h
    have hn := hb.n2
    have hp := hb.prm
    have hfew := hb.few
    have hrow : ∀ r ∈ rows, RowOk p n r := fun r hr => (hb.sum r hr).1
    have hR := reducedBy_ok hp hrow n
    have nd := asc_nodup hlot.1
    have ho := orderOf_ok nd hlot.2
    have hL := lot_len hlot
    have hA := reducedBy_ok hp (cut_ok hR.2 ho) n
    have hA1 : (rowsAhead p n (reducedBy p rows n) lost).length ≤ n := hA.1
    have hA2 : ∀ r ∈ rowsAhead p n (reducedBy p rows n) lost, RowOk p n r := hA.2
    refine ds_cons (ds_unp2 2 3 rfl Sc.nd (de_callR C_rows_with_ahead hr (da_cons (de_var 0 rfl (da_cons (de_callR C_sums_in hr ?_))))))
    wtm_at "d"
    refine ⟨p, n, rows, reducedBy p rows n, lost, _, rfl, .inr rfl, hp, hn, by omega, hR.2, nd, hlot.2, ?_⟩
    wtm_at "d"
    refine ds_set 4 Sc.nd (dv_own (dl_list (dd_nil ⟨Nat.zero_le _, ?_⟩)))
    refine ds_cons (for1 5 (rowsAhead p n (reducedBy p rows n) lost) tI (fun i δ => ∃ a b, δ = [some (.sh (bkD p n rows)), some (.sh (tN lost)), some (.sh (tR (rowsAhead p n (reducedBy p rows n) lost))), some (.sh (tN (orderOf n lost))), some (.own ((((rowsAhead p n (reducedBy p rows n) lost).take i).filter fun r => decide ((spotsOf lost.length r).length = 1)).map fun r => .tuple [.int ((lost.getD ((spotsOf lost.length r).headD 0) 0 : Nat) : Int), tI (putBack r (orderOf n lost))])), a, b, none]) PassesOwn.never rfl Sc.nd (dis_tup 5 ?_))
    wtm_at "d"
    refine ⟨⟨none, none, rfl⟩, fun i r δ' hi hI => ?_, fun δ' hI => ?_⟩
    · obtain ⟨a, b, rfl⟩ := hI
      have hrm := List.mem_of_getElem? hi
      have hok := hA2 r hrm
      have hil : i < (rowsAhead p n (reducedBy p rows n) lost).length := (List.getElem?_eq_some_iff.mp hi).1
      have hspl : (spotsOf lost.length r).length ≤ lost.length := by
        have := List.length_filter_le (fun s => decide (0 < gt r s)) (List.range lost.length)
        rw [List.length_range] at this; exact this
      refine ds_cons (slcf 6 7 (List.range lost.length) (fun i => .int (i : Int)) (fun s => decide (0 < gt r s)) (fun i => .int (i : Int)) rfl Sc.nd (di_s (dis_rngN 7 B.range ?_)))
      wtm_at "d"
      have e0 : (((nI lost).map PyData.int).length) = lost.length := by rw [nI, List.length_map, List.length_map]
      refine ⟨by rw [e0]; omega, by rw [e0], by rw [List.length_range]; omega, fun y hy s H C cl fp => ?_, fun y hy _ s H C cl fp => ?_, .inl ?_⟩
      · have hyl : y < lost.length := List.mem_range.mp hy
        refine dt_cmp (dc_gt ?_)
        wtm_at "d"
        refine ⟨_, _, rfl, hok.at_ (show y < n by omega), ?_⟩
        wtm_at "d"
        rfl
      · wtm_at "d"
        rfl
      · have el : (((List.range lost.length).filter fun s => decide (0 < gt r s)).map fun (i : Nat) => PyData.int (i : Int)) = (nI (spotsOf lost.length r)).map .int := by
          rw [nI, List.map_map]; rfl
        rw [el]
        refine ds_one (ds_if (dt_cmp (dc_eqI ?_)))
        wtm_at "d"
        have e1 : ((nI (spotsOf lost.length r)).map PyData.int).length = (spotsOf lost.length r).length := by rw [nI, List.length_map, List.length_map]
        rw [e1]
        have htk : ∀ (f : List Int → D), ((((rowsAhead p n (reducedBy p rows n) lost).take (i + 1)).filter fun r => decide ((spotsOf lost.length r).length = 1)).map f) = ((((rowsAhead p n (reducedBy p rows n) lost).take i).filter fun r => decide ((spotsOf lost.length r).length = 1)).map f) ++ (if (spotsOf lost.length r).length = 1 then [f r] else []) := fun f => by
          rw [List.take_succ, hi, Option.toList_some, List.filter_append, List.map_append]
          congr 1
          by_cases e : (spotsOf lost.length r).length = 1
          · rw [List.filter_cons_of_pos (by simpa using e), if_pos e]; rfl
          · rw [List.filter_cons_of_neg (by simpa using e), if_neg e]; rfl
        have hlt : (((rowsAhead p n (reducedBy p rows n) lost).take i).filter fun r => decide ((spotsOf lost.length r).length = 1)).length ≤ i := Nat.le_trans (List.length_filter_le _ _) (by rw [List.length_take]; omega)
        refine isd (fun e => ?_) fun e => ?_
        · have e : (spotsOf lost.length r).length = 1 := by omega
          obtain ⟨t, ht⟩ : ∃ t, spotsOf lost.length r = [t] := by
            match spotsOf lost.length r, e with
            | [t], _ => exact ⟨t, rfl⟩
          have htl : t < lost.length := List.mem_range.mp (List.mem_filter.mp (show t ∈ spotsOf lost.length r by rw [ht]; exact List.mem_cons_self)).1
          have hg : (nI lost)[t]? = some ((lost.getD t 0 : Nat) : Int) := by
            rw [nI, List.getElem?_map, List.getElem?_eq_getElem htl, List.getD_eq_getElem?_getD, List.getElem?_eq_getElem htl]; rfl
          refine ds_one (ds_append 4 rfl (de_tuple (dd_cons (de_ix ?_))))
          wtm_at "d"
          rw [ht]
          refine ⟨_, _, rfl, at_head, t, _, rfl, atI_ix rfl (by rw [List.getElem?_map, hg]; rfl), dd_cons (de_callR C_row_put_back hr ?_)⟩
          wtm_at "d"
          refine ⟨n, r, orderOf n lost, rfl, hn, hok.1, ho, ?_⟩
          wtm_at "d"
          refine ⟨by rw [List.length_map]; omega, some (.sh (tI r)), some (.sh (.list ((nI (spotsOf lost.length r)).map .int))), ?_⟩
          rw [htk, if_pos e, ht]
          rfl
        · have e : ¬ (spotsOf lost.length r).length = 1 := fun z => e (by omega)
          refine ds_nil ⟨some (.sh (tI r)), some (.sh (.list ((nI (spotsOf lost.length r)).map .int))), ?_⟩
          rw [htk, if_neg e, List.append_nil]
          rfl
    · obtain ⟨a, b, rfl⟩ := hI
      refine ds_one (ds_ret (db_own 4 rfl ?_))
      rw [List.take_length]
      unfold alonePairs aloneRows at hk
      rw [List.map_map] at hk
      exact hk
theorem c_words_within (B : Bl mg) (Df : Def K mg "words_within" 38 []) (C_places_but : Cal P w K mg base "places_but" 1 [] F_places_but) (C_words_in : Cal P w K mg base "words_in" 5 [] F_words_in) (C_rows_with_ahead : Cal P w K mg base "rows_with_ahead" 4 [] F_rows_with_ahead) (C_row_put_back : Cal P w K mg base "row_put_back" 1 [] F_row_put_back) :
    Cal P w K mg base "words_within" 6 [] F_words_within := by
  have Sc : FnScope ["book", "lost", "kept", "rows", "order", "row"] ["book", "lost"] (defScope (tp 38)) := ⟨rfl, rfl, rfl, by decide +kernel, rfl, by decide +kernel, by decide +kernel⟩
  refine cal0 Df Sc (fun _ _ _ _ _ _ us hl => match us, hl with | [_, _], _ => rfl) (fun ss k h => ?_) fun f cdv A outer s H E hr ss k h => ?_
  · obtain ⟨_, _, _, _, rfl, _⟩ := h; rfl
  · obtain ⟨p, n, rows, lost, rfl, hb, hlot, hk⟩ := h
    have hn := hb.n2
    have hp := hb.prm
    have hfew := hb.few
    have hrow : ∀ r ∈ rows, RowOk p n r := fun r hr => (hb.sum r hr).1
    have hN := nullBy_ok hp hrow
    have hNl : (nullBy p rows n).length ≤ n := (reducedBy_ok hp (fun r hr => by
      obtain ⟨f, _, rfl⟩ := List.mem_map.mp hr
      exact kept_ok hp (reducedBy_ech hp hrow) f) n).1
    obtain ⟨nd, hlt⟩ := keptOfLot_ok (n := n) (lost := lost)
    have ho := orderOf_ok nd hlt
    have hA := reducedBy_ok hp (cut_ok hN.ok ho) n
    have hA1 : (rowsAhead p n (nullBy p rows n) (keptOfLot n lost)).length ≤ n := hA.1
    have hA2 : ∀ r ∈ rowsAhead p n (nullBy p rows n) (keptOfLot n lost), RowOk p n r := hA.2
    refine ds_cons (ds_set 2 Sc.nd (dv_sh (de_callR C_places_but hr ?_)))
    wtm_at "d"
    refine ds_unp2 3 4 rfl Sc.nd (de_callR C_rows_with_ahead hr (da_cons (de_var 0 rfl (da_cons (de_callR C_words_in hr ?_)))))
    wtm_at "d"
    refine ⟨p, n, rows, nullBy p rows n, keptOfLot n lost, _, rfl, .inl rfl, hp, hn, by omega, hN.ok, nd, hlt, ?_⟩
    wtm_at "d"
    refine lcf 5 (rowsAhead p n (nullBy p rows n) (keptOfLot n lost)) tI (fun r => !((r.take (keptOfLot n lost).length).any fun x => x != 0)) (fun r => tI (putBack r (orderOf n (keptOfLot n lost)))) rfl Sc.nd (di_s (dis_tup 5 ?_))
    wtm_at "d"
    refine ⟨fun r hr' s H C cl fp => ?_, fun r hr' _ s H C cl fp => ?_, ?_⟩
    · refine dt_not (dt_val (de_anyT rfl B.any ?_))
      wtm_at "d"
      have e0 : ((nI (keptOfLot n lost)).map PyData.int).length = (keptOfLot n lost).length := by rw [nI, List.length_map, List.length_map]
      rw [e0, cut_to, ← List.map_take]
      exact ⟨_, rfl, _, rfl, rfl⟩
    · have hok := hA2 r hr'
      refine de_callR C_row_put_back hr ?_
      wtm_at "d"
      exact ⟨n, r, _, rfl, hn, hok.1, ho, rfl⟩
    · unfold wordsWithin at hk
      rw [lR, List.map_map] at hk
      exact hk
end
section
variable {P : Program} {w : World} {K : PySem.W.Frag} {mg : Str → Option Value} {base : Heap}
/-- a def with one default, by its body -/
theorem cal1 {x : Str} {i : Nat} {N ps : List Str} {lv : Nat} {F : FS} {d0 : V} {dd : List D} (n j : Nat) (Df : Def K mg x i [d0]) (Sc : FnScope N ps (defScope (tp i))) (hn : n + (1 - j) = ps.length)
    (hb : ∀ (T : Addr) (kV doc pm : Value) (an : Option Addr) (cdv ct : Value) (us its : List Value), us.length = n → its.length = 1 → ∃ k, bindArgs (PySem.W.fnOf x x (defArgs (tp i)) (defBody (tp i)) (defScope (tp i)) (.ref T) kV doc pm an cdv ct) ⟨us, []⟩ = seqItems? (.ref T) >>= k ∧ k (some its.toArray) = pure (ps.zip (us ++ its.drop j)))
    (hdd : ∀ H, Rps H ([d0].drop j) dd) (len : ∀ ss k, F ss k → ss.length = ps.length)
    (h : ∀ (f : Addr) (cdv : Value) (A : Around) (outer : List Env) (s : Shared) (H : Hp) (E : XK), Room lv (A.deeper (PyProof.Rows.envOfC x (defScope (tp i)) s.heap.objs.size f cdv)) → ∀ ss k, F ss k →
      DSs (bodyX P w K mg base N x (defScope (tp i)) f cdv A outer s H E) (defBody (tp i)) (startD N ss) { nx := fun _ => k .none, rt := k }) : Cal P w K mg base x (lv + 1) dd F := by
  obtain ⟨f, fd, hF, hm⟩ := Df
  obtain ⟨ds, hv, hB⟩ := hF.binds1 n j (by simp) (by simpa using hn) hb
  exact ⟨f, fd, ps, _, ds, cal_of hF Sc len (h f), hm, hF.kp, hB, hv, hdd⟩
--LEVEL want 1
--LEVEL want_book 8
--LEVEL want_book2 8
--LEVEL want_lot 8
abbrev F_want : FS := fun ss k => ∃ x y : D, ss = [.sh (.bool true), .sh x, .sh y] ∧ k .none
abbrev F_want_book : FS := fun ss k => ∃ (p : Int) (n : Nat) (rows : List (List Int)) (x : D), ss = [.sh (bkD p n rows), .sh x] ∧ BookOk p n rows ∧ k .none
abbrev F_want_book2 : FS := F_want_book
abbrev F_want_lot : FS := fun ss k => ∃ (p : Int) (n : Nat) (rows : List (List Int)) (l : List Nat) (x : D), ss = [.sh (bkD p n rows), .sh (tN l), .sh x] ∧ BookOk p n rows ∧ LotOk n l ∧ k .none
abbrev F_want_lost : FS := fun ss k => ∃ (p : Int) (n : Nat) (rows : List (List Int)) (l : List Nat), ss = [.sh (bkD p n rows), .sh (tN l)] ∧ BookOk p n rows ∧ LotOk n l ∧ k .none
theorem c_want (Df : Def K mg "want" 45 [.int (-1)]) : Cal P w K mg base "want" 1 [.int (-1)] F_want := by
  have Sc : FnScope ["is_right", "name", "place"] ["is_right", "name", "place"] (defScope (tp 45)) := ⟨rfl, rfl, rfl, by decide +kernel, rfl, by decide +kernel, by decide +kernel⟩
  refine cal1 2 0 Df Sc rfl (fun _ _ _ _ _ _ _ us its h1 h2 => match us, its, h1, h2 with | [_, _], [_], _, _ => ⟨_, rfl, rfl⟩) (fun _ => .cons (.int _) .nil) (fun ss k h => ?_) fun f cdv A outer s H E hr ss k h => ?_
  · obtain ⟨_, _, rfl, _⟩ := h; rfl
  · obtain ⟨x, y, rfl, hk⟩ := h
    refine ds_one (ds_if (dt_not (dt_val (de_var 0 rfl ⟨_, rfl, ?_⟩))))
    exact ino rfl (ds_nil hk)
theorem c_want_book (B : Bl mg) (Df : Def K mg "want_book" 46 [.str "book"]) (C_want : Cal P w K mg base "want" 1 [.int (-1)] F_want) (C_book_fault : Cal P w K mg base "book_fault" 7 [] F_book_fault) (j : Nat) (dd : List D) (hj : (j = 0 ∧ dd = [.str "book"]) ∨ (j = 1 ∧ dd = [])) : Cal P w K mg base "want_book" 8 dd F_want_book := by
  have Sc : FnScope ["book", "name"] ["book", "name"] (defScope (tp 46)) := ⟨rfl, rfl, rfl, by decide +kernel, rfl, by decide +kernel, by decide +kernel⟩
  have body : ∀ (f : Addr) (cdv : Value) (A : Around) (outer : List Env) (s : Shared) (H : Hp) (E : XK), Room 7 (A.deeper (PyProof.Rows.envOfC "want_book" (defScope (tp 46)) s.heap.objs.size f cdv)) → ∀ ss k, F_want_book ss k →
      DSs (bodyX P w K mg base ["book", "name"] "want_book" (defScope (tp 46)) f cdv A outer s H E) (defBody (tp 46)) (startD ["book", "name"] ss) { nx := fun _ => k .none, rt := k } := fun f cdv A outer s H E hr ss k h => by
    obtain ⟨p, n, rows, x, rfl, hb, hk⟩ := h
    refine ds_one (ds_ex (de_callR C_want hr (da_cons (de_cmp (dc_isN (db_of (de_callR C_book_fault hr ?_)))))))
    wtm_at "d"
    exact hk
  have len : ∀ ss k, F_want_book ss k → ss.length = ["book", "name"].length := fun ss k h => by obtain ⟨_, _, _, _, rfl, _⟩ := h; rfl
  rcases hj with ⟨rfl, rfl⟩ | ⟨rfl, rfl⟩
  · exact cal1 1 0 Df Sc rfl (fun _ _ _ _ _ _ _ us its h1 h2 => match us, its, h1, h2 with | [_], [_], _, _ => ⟨_, rfl, rfl⟩) (fun _ => .cons (.str _) .nil) len body
  · exact cal1 2 1 Df Sc rfl (fun _ _ _ _ _ _ _ us its h1 h2 => match us, its, h1, h2 with | [_, _], [_], _, _ => ⟨_, rfl, rfl⟩) (fun _ => .nil) len body
theorem c_want_lot (B : Bl mg) (Df : Def K mg "want_lot" 47 [.str "lot"]) (C_want : Cal P w K mg base "want" 1 [.int (-1)] F_want) (C_is_lot_of : Cal P w K mg base "is_lot_of" 4 [] F_is_lot_of) : Cal P w K mg base "want_lot" 8 [] F_want_lot := by
  have Sc : FnScope ["book", "lot", "name"] ["book", "lot", "name"] (defScope (tp 47)) := ⟨rfl, rfl, rfl, by decide +kernel, rfl, by decide +kernel, by decide +kernel⟩
  refine cal1 3 1 Df Sc rfl (fun _ _ _ _ _ _ _ us its h1 h2 => match us, its, h1, h2 with | [_, _, _], [_], _, _ => ⟨_, rfl, rfl⟩) (fun _ => .nil) (fun ss k h => ?_) fun f cdv A outer s H E hr ss k h => ?_
  · obtain ⟨_, _, _, _, _, rfl, _⟩ := h; rfl
  · obtain ⟨p, n, rows, l, x, rfl, hb, hl, hk⟩ := h
    refine ds_one (ds_ex (de_callR C_want hr (da_cons (de_callR C_is_lot_of hr ?_))))
    wtm_at "d"
    exact hk
theorem c_want_lost (B : Bl mg) (Df : Def K mg "want_lost" 49 []) (C_want_book : Cal P w K mg base "want_book" 8 [.str "book"] F_want_book) (C_want_lot : Cal P w K mg base "want_lot" 8 [] F_want_lot) :
    Cal P w K mg base "want_lost" 9 [] F_want_lost := by
  have Sc : FnScope ["book", "lost"] ["book", "lost"] (defScope (tp 49)) := ⟨rfl, rfl, rfl, by decide +kernel, rfl, by decide +kernel, by decide +kernel⟩
  refine cal0 Df Sc (fun _ _ _ _ _ _ us hl => match us, hl with | [_, _], _ => rfl) (fun ss k h => ?_) fun f cdv A outer s H E hr ss k h => ?_
  · obtain ⟨_, _, _, _, rfl, _⟩ := h; rfl
  · obtain ⟨p, n, rows, l, rfl, hb, hl, hk⟩ := h
    refine ds_cons (ds_ex (de_callR C_want_book hr ?_))
    wtm_at "d"
    refine (ds_ex (de_callR C_want_lot hr ?_))
    wtm_at "d"
    exact hk
end
theorem zip_dot {n : Nat} {a b : List Int} (ha : a.length = n) (hb : b.length = n) : ((a.zip b).map fun q => q.1 * q.2).sum = dot (gt a) (gt b) n := by
  rw [dot_lsum]
  unfold lsum
  congr 1
  refine List.ext_getElem (by simp; omega) fun i h1 h2 => ?_
  have ga : a[i]? = some (gt a i) := gt_get (by simp at h1; omega)
  have gb : b[i]? = some (gt b i) := gt_get (by simp at h1; omega)
  simp only [List.getElem_map, List.getElem_zip, List.getElem_range]
  rw [List.getElem?_eq_getElem (by simp at h1; omega)] at ga gb
  rw [Option.some.inj ga, Option.some.inj gb]
structure TiesOk (p : Int) (n : Nat) (rows ties : List (List Int)) : Prop where
  few : ties.length ≤ 40
  sum : ∀ x ∈ ties, SumOk p n x
  sp : ∀ x ∈ ties, InSp p n rows x
theorem word_perp {p : Int} {n : Nat} {rows : List (List Int)} (hp : PrmI p) (h : ∀ r ∈ rows, RowOk p n r) {b : List Int} (hb : b ∈ nullBy p rows n) : Perp p n rows (gt b) := fun r hr => by
  rw [dot_comm]
  exact (nullBy_perp hp h (gt r)).mpr (fun v hv => by rw [dot_comm]; exact hv r hr) b hb
section
variable {P : Program} {w : World} {K : PySem.W.Frag} {mg : Str → Option Value} {base : Heap}
abbrev F_are_goings_sums : FS := fun ss k => ∃ (p : Int) (n : Nat) (rows ties : List (List Int)), ss = [.sh (bkD p n rows), .sh (tR ties)] ∧ BookOk p n rows ∧ TiesOk p n rows ties ∧ k (.bool true)
abbrev F_want_goings : FS := fun ss k => ∃ (p : Int) (n : Nat) (rows ties : List (List Int)) (l : List Nat), ss = [.sh (bkD p n rows), .sh (tR ties), .sh (tN l)] ∧ BookOk p n rows ∧ TiesOk p n rows ties ∧ LotOk n l ∧ k .none
abbrev F_goings : FS := fun ss k => ∃ (p : Int) (n : Nat) (rows ties : List (List Int)) (l : List Nat), ss = [.sh (bkD p n rows), .sh (tR ties), .sh (tN l)] ∧ BookOk p n rows ∧ TiesOk p n rows ties ∧ LotOk n l ∧ k (.tuple ((goBy (ties.map (spotsOf n)) l).1.map tN))
abbrev F_left_by : FS := fun ss k => ∃ (p : Int) (n : Nat) (rows ties : List (List Int)) (l : List Nat), ss = [.sh (bkD p n rows), .sh (tR ties), .sh (tN l)] ∧ BookOk p n rows ∧ TiesOk p n rows ties ∧ LotOk n l ∧ k (tN (goBy (ties.map (spotsOf n)) l).2)
abbrev F_is_mended_by : FS := fun ss k => ∃ (p : Int) (n : Nat) (rows ties : List (List Int)) (l : List Nat), ss = [.sh (bkD p n rows), .sh (tR ties), .sh (tN l)] ∧ BookOk p n rows ∧ TiesOk p n rows ties ∧ LotOk n l ∧ k (.bool (decide ((goBy (ties.map (spotsOf n)) l).2 = [])))
/-- what a loss paper tells of a place -/
def Paper1 (p : Int) (n : Nat) (rows : List (List Int)) (lost : List Nat) (t : Nat) (d : D) : Prop := (∃ x, d = .tuple [.str "told", tI x] ∧ Told p n rows lost t x) ∨ ¬ Known p n rows lost t
abbrev F_entries_by : FS := fun ss k => ∃ (p : Int) (n : Nat) (rows : List (List Int)) (lost : List Nat), ss = [.sh (bkD p n rows), .sh (tN lost)] ∧ BookOk p n rows ∧ LotOk n lost ∧ ∀ es : List D, es.length = lost.length → (∀ (i : Nat) (t : Nat) (d : D), lost[i]? = some t → es[i]? = some d → Paper1 p n rows lost t d) → k (.tuple es)
theorem c_are_goings_sums (B : Bl mg) (Df : Def K mg "are_goings_sums" 51 []) (C_is_sum_of : Cal P w K mg base "is_sum_of" 5 [] F_is_sum_of) (C_words_in : Cal P w K mg base "words_in" 5 [] F_words_in) (C_rest_of : Cal P w K mg base "rest_of" 1 [] F_rest_of) :
    Cal P w K mg base "are_goings_sums" 6 [] F_are_goings_sums := by
  have Sc : FnScope ["book", "thing", "prime", "size", "sums", "words", "one", "numbers", "word"] ["book", "thing"] (defScope (tp 51)) := ⟨rfl, rfl, rfl, by decide +kernel, rfl, by decide +kernel, by decide +kernel⟩
  refine cal0 Df Sc (fun _ _ _ _ _ _ us hl => match us, hl with | [_, _], _ => rfl) (fun ss k h => ?_) fun f cdv A outer s H E hr ss k h => ?_
  · obtain ⟨_, _, _, _, rfl, _⟩ := h; rfl
  · obtain ⟨p, n, rows, ties, rfl, hb, ht, hk⟩ := h
    have hn := hb.n2
    have hp := hb.prm
    have h2 := hp.two
    have hfew := ht.few
    have hrow : ∀ r ∈ rows, RowOk p n r := fun r hr => (hb.sum r hr).1
    have hN := nullBy_ok hp hrow
    have hNl : (nullBy p rows n).length ≤ n := (reducedBy_ok hp (fun r hr => by
      obtain ⟨f, _, rfl⟩ := List.mem_map.mp hr
      exact kept_ok hp (reducedBy_ech hp hrow) f) n).1
    refine ds_cons (ds_unp3 2 3 4 rfl Sc.nd ?_)
    wtm_at "d"
    refine de_isiC "tuple" "tuple" true B.isinstance B.tuple (by decide +kernel) (by decide +kernel) ?_
    wtm_at "d"
    refine ino rfl (dt_not (dt_val (de_all rfl B.all (db_lst (lc1 6 ties tI (fun _ => .bool true) rfl Sc.nd (di_s (dis_tup 6 ?_)))))))
    wtm_at "d"
    refine ⟨fun y hy s H C cl fp => ?_, ties.map fun _ => true, by rw [List.map_map]; rfl, ?_⟩
    · have hS := ht.sum y hy
      refine de_callR C_is_sum_of hr ?_
      wtm_at "d"
      rfl
    have e1 : (ties.map fun _ => true).all id = true := by simp
    rw [e1]
    refine ⟨true, rfl, ino rfl (ds_nil ?_)⟩
    refine ds_cons (ds_set 5 Sc.nd (dv_sh (de_callR C_words_in hr ?_)))
    wtm_at "d"
    refine (dl_lc2 (own := [("numbers", 7), ("word", 8)]) (j1 := 7) (j2 := 8) (P := fun d => d = .bool true) rfl Sc.nd (blkOk_by (by kernel_rfl)) rfl (by decide) (tg1 7 Sc.nd) (tg1 8 Sc.nd) (fun s z => by cases z) (fun s z => by cases z) ?_)
    wtm_at "d"
    refine ⟨by rw [List.length_map]; omega, fun x hx s H C cl fp => ?_, fun ys hys => ?_⟩
    · obtain ⟨a, ha, rfl⟩ := List.mem_map.mp hx
      wtm_at "d"
      refine ⟨by rw [List.length_map]; omega, fun y hy s H C cl fp => ?_⟩
      obtain ⟨b, hbm, rfl⟩ := List.mem_map.mp hy
      have hao := (ht.sum a ha).1
      have hbo := hN.ok b hbm
      refine de_cmp (dc_eqI (de_callR C_rest_of hr ?_))
      wtm_at "d"
      refine ⟨p, n, a, b, rfl, hp, hn, hao, hbo, _, rfl, ?_⟩
      wtm_at "d"
      rw [zip_dot hao.1 hbo.1, Int.emod_eq_zero_of_dvd (ht.sp a ha _ (word_perp hp hrow hbm))]
      rfl
    · refine ⟨ys.map fun _ => true, ?_, ?_⟩
      · rw [List.map_map]
        congr 1
        conv => lhs; rw [← List.map_id ys]
        exact List.map_congr_left fun y hy => hys y hy
      · have e2 : (ys.map fun _ => true).all id = true := by simp
        rw [e2]; exact hk
theorem c_want_goings (B : Bl mg) (Df : Def K mg "want_goings" 52 []) (C_want_book : Cal P w K mg base "want_book" 8 [.str "book"] F_want_book) (C_want : Cal P w K mg base "want" 1 [.int (-1)] F_want) (C_are_goings_sums : Cal P w K mg base "are_goings_sums" 6 [] F_are_goings_sums) (C_want_lot : Cal P w K mg base "want_lot" 8 [] F_want_lot) :
    Cal P w K mg base "want_goings" 9 [] F_want_goings := by
  have Sc : FnScope ["book", "sums", "lost"] ["book", "sums", "lost"] (defScope (tp 52)) := ⟨rfl, rfl, rfl, by decide +kernel, rfl, by decide +kernel, by decide +kernel⟩
  refine cal0 Df Sc (fun _ _ _ _ _ _ us hl => match us, hl with | [_, _, _], _ => rfl) (fun ss k h => ?_) fun f cdv A outer s H E hr ss k h => ?_
  · obtain ⟨_, _, _, _, _, rfl, _⟩ := h; rfl
  · obtain ⟨p, n, rows, ties, l, rfl, hb, ht, hl, hk⟩ := h
    refine ds_cons (ds_ex (de_callR C_want_book hr ?_))
    wtm_at "d"
    refine (ds_ex (de_callR C_want hr (da_cons (de_callR C_are_goings_sums hr ?_))))
    wtm_at "d"
    refine (ds_ex (de_callR C_want_lot hr ?_))
    wtm_at "d"
    exact hk
theorem c_goings (B : Bl mg) (Df : Def K mg "goings" 53 []) (C_want_goings : Cal P w K mg base "want_goings" 9 [] F_want_goings) (C_goings_by : Cal P w K mg base "goings_by" 2 [] F_goings_by) :
    Cal P w K mg base "goings" 10 [] F_goings := by
  have Sc : FnScope ["book", "sums", "lost"] ["book", "sums", "lost"] (defScope (tp 53)) := ⟨rfl, rfl, rfl, by decide +kernel, rfl, by decide +kernel, by decide +kernel⟩
  refine cal0 Df Sc (fun _ _ _ _ _ _ us hl => match us, hl with | [_, _, _], _ => rfl) (fun ss k h => ?_) fun f cdv A outer s H E hr ss k h => ?_
  · obtain ⟨_, _, _, _, _, rfl, _⟩ := h; rfl
  · obtain ⟨p, n, rows, ties, l, rfl, hb, ht, hl, hk⟩ := h
    refine ds_cons (ds_ex (de_callR C_want_goings hr ?_))
    wtm_at "d"
    refine de_callR C_goings_by hr ?_
    wtm_at "d"
    refine ⟨n, ties, l, rfl, ht.few, fun x hx => (ht.sum x hx).1.1, hb.n2, hl, _, .inr rfl, ?_⟩
    wtm_at "d"
    exact hk
theorem c_left_by (B : Bl mg) (Df : Def K mg "left_by" 54 []) (C_want_goings : Cal P w K mg base "want_goings" 9 [] F_want_goings) (C_goings_by : Cal P w K mg base "goings_by" 2 [] F_goings_by) :
    Cal P w K mg base "left_by" 10 [] F_left_by := by
  have Sc : FnScope ["book", "sums", "lost"] ["book", "sums", "lost"] (defScope (tp 54)) := ⟨rfl, rfl, rfl, by decide +kernel, rfl, by decide +kernel, by decide +kernel⟩
  refine cal0 Df Sc (fun _ _ _ _ _ _ us hl => match us, hl with | [_, _, _], _ => rfl) (fun ss k h => ?_) fun f cdv A outer s H E hr ss k h => ?_
  · obtain ⟨_, _, _, _, _, rfl, _⟩ := h; rfl
  · obtain ⟨p, n, rows, ties, l, rfl, hb, ht, hl, hk⟩ := h
    refine ds_cons (ds_ex (de_callR C_want_goings hr ?_))
    wtm_at "d"
    refine de_callR C_goings_by hr ?_
    wtm_at "d"
    refine ⟨n, ties, l, rfl, ht.few, fun x hx => (ht.sum x hx).1.1, hb.n2, hl, _, .inr rfl, ?_⟩
    wtm_at "d"
    exact hk
theorem c_is_mended_by (B : Bl mg) (Df : Def K mg "is_mended_by" 55 []) (C_want_goings : Cal P w K mg base "want_goings" 9 [] F_want_goings) (C_goings_by : Cal P w K mg base "goings_by" 2 [] F_goings_by) :
    Cal P w K mg base "is_mended_by" 10 [] F_is_mended_by := by
  have Sc : FnScope ["book", "sums", "lost"] ["book", "sums", "lost"] (defScope (tp 55)) := ⟨rfl, rfl, rfl, by decide +kernel, rfl, by decide +kernel, by decide +kernel⟩
  refine cal0 Df Sc (fun _ _ _ _ _ _ us hl => match us, hl with | [_, _, _], _ => rfl) (fun ss k h => ?_) fun f cdv A outer s H E hr ss k h => ?_
  · obtain ⟨_, _, _, _, _, rfl, _⟩ := h; rfl
  · obtain ⟨p, n, rows, ties, l, rfl, hb, ht, hl, hk⟩ := h
    refine ds_cons (ds_ex (de_callR C_want_goings hr ?_))
    wtm_at "d"
    refine de_callR C_goings_by hr ?_
    wtm_at "d"
    refine ⟨n, ties, l, rfl, ht.few, fun x hx => (ht.sum x hx).1.1, hb.n2, hl, _, .inr rfl, ?_⟩
    wtm_at "d"
    have e : decide (((((nI (goBy (ties.map (spotsOf n)) l).2).map PyData.int).length : Nat) : Int) = 0) = decide ((goBy (ties.map (spotsOf n)) l).2 = []) := by
      rw [nI, List.length_map, List.length_map]
      cases (goBy (ties.map (spotsOf n)) l).2 with
      | nil => rfl
      | cons a as => simp; omega
    rw [e]
    exact hk
end
theorem look_mem {kvs : List (Int × D)} {i : Int} {d : D} (h : lookI kvs i = some d) : (i, d) ∈ kvs := by
  unfold lookI at h
  cases e : kvs.find? (fun p => decide (p.1 = i)) with
  | none => rw [e] at h; cases h
  | some q =>
    rw [e] at h
    have h1 : q.2 = d := by simpa using h
    have h2 : q.1 = i := by simpa using List.find?_some e
    have h3 := List.mem_of_find?_eq_some e
    rw [← h1, ← h2]; exact h3
theorem look_none {kvs : List (Int × D)} {i : Int} (h : lookI kvs i = none) : i ∉ kvs.map (·.1) := fun z => by
  obtain ⟨q, hq, e⟩ := List.mem_map.mp z
  unfold lookI at h
  have h1 : kvs.find? (fun p => decide (p.1 = i)) = none := by
    cases e : kvs.find? (fun p => decide (p.1 = i)) with
    | none => rfl
    | some q => rw [e] at h; cases h
  have := List.find?_eq_none.mp h1 q hq
  simp [e] at this
section
variable {P : Program} {w : World} {K : PySem.W.Frag} {mg : Str → Option Value} {base : Heap}
theorem c_entries_by (B : Bl mg) (Df : Def K mg "entries_by" 39 []) (C_alone_pairs : Cal P w K mg base "alone_pairs" 5 [] F_alone_pairs) (C_words_within : Cal P w K mg base "words_within" 6 [] F_words_within) :
    Cal P w K mg base "entries_by" 7 [] F_entries_by := by
  have Sc : FnScope ["book", "lost", "table", "words", "nought", "found", "place", "numbers", "row"] ["book", "lost"] (defScope (tp 39)) := ⟨rfl, rfl, rfl, by decide +kernel, rfl, by decide +kernel, by decide +kernel⟩
  refine cal0 Df Sc (fun _ _ _ _ _ _ us hl => match us, hl with | [_, _], _ => rfl) (fun ss k h => ?_) fun f cdv A outer s H E hr ss k h => ?_
  · obtain ⟨_, _, _, _, rfl, _⟩ := h; rfl
  · obtain ⟨p, n, rows, lost, rfl, hb, hlot, hk⟩ := h
    have hn1 := hb.n1
    have hn := hb.n2
    have hp := hb.prm
    have hrow : ∀ r ∈ rows, RowOk p n r := fun r hr => (hb.sum r hr).1
    have hA := alonePairs_ok hp hrow hlot
    obtain ⟨hW1, hW2⟩ := wordsWithin_ok (lost := lost) hp hrow
    have hL := lot_len hlot
    have hAl : (alonePairs p n rows lost).length ≤ 12 := by
      have := sub_len (A := (alonePairs p n rows lost).map (·.1)) (B := lost) hA.nd fun x hx => by
        obtain ⟨q, hq, rfl⟩ := List.mem_map.mp hx
        exact (hA.mem q hq).1
      rw [List.length_map] at this; omega
    have hWl : (wordsWithin p n rows lost).length ≤ 12 := by
      have h1 : (wordsWithin p n rows lost).length ≤ (rowsAhead p n (nullBy p rows n) (keptOfLot n lost)).length := by
        unfold wordsWithin; rw [List.length_map]; exact List.length_filter_le _ _
      have h2 : (rowsAhead p n (nullBy p rows n) (keptOfLot n lost)).length ≤ n := (reducedBy_ok hp (cut_ok (nullBy_ok hp hrow).ok (orderOf_ok keptOfLot_ok.1 keptOfLot_ok.2)) n).1
      omega
    refine ds_cons (ds_setDc 2 (js := [6, 7]) (own := [("place", 6), ("numbers", 7)]) (tup := true) rfl Sc.nd (blkOk_by (by kernel_rfl)) rfl (by decide) (tg2 6 7 rfl Sc.nd) (di_s (dis_listP 6 7 (de_callR C_alone_pairs hr ?_))))
    wtm_at "d"
    refine ⟨(alonePairs p n rows lost).map fun q => (.int (q.1 : Int), tI q.2), by rw [List.map_map]; rfl, (alonePairs p n rows lost).map fun q => ((q.1 : Int), tI q.2), by simp, by simp; omega, ?_, fun i ds q h1 h2 => ?_, ?_⟩
    · rw [List.map_map]
      have := hA.nd
      refine List.pairwise_map.mpr ((List.pairwise_map.mp this).imp fun {a b} h z => h (Int.ofNat_inj.mp (show (a.1 : Int) = (b.1 : Int) from z)))
    · rw [List.getElem?_map, List.getElem?_map] at h1
      rw [List.getElem?_map] at h2
      cases hq : (alonePairs p n rows lost)[i]? with
      | none => rw [hq] at h1; cases h1
      | some z =>
        rw [hq] at h1 h2
        cases h1; cases h2
        refine ⟨fun s H C cl fp => ?_, fun s H C cl fp => ?_⟩
        · wtm_at "d"
          rfl
        · wtm_at "d"
          rfl
    refine ds_cons (ds_par 3 4 rfl Sc.nd (dv_sh (de_callR C_words_within hr ?_)))
    wtm_at "d"
    refine de_mulT ?_
    wtm_at "d"
    refine ⟨by simp, by simp, ?_⟩
    refine ds_cons (ds_set 5 Sc.nd (dv_own (dl_list (dd_nil ⟨Nat.zero_le _, ?_⟩))))
    generalize hkv : (alonePairs p n rows lost).map (fun q => ((q.1 : Int), tI q.2)) = kvs
    have hk1 : ∀ (t : Nat) (d : D), lookI kvs t = some d → ∃ x, d = tI x ∧ Told p n rows lost t x := fun t d h => by
      have := look_mem h
      rw [← hkv] at this
      obtain ⟨q, hq, e⟩ := List.mem_map.mp this
      cases e
      exact ⟨q.2, rfl, (hA.mem q hq).2⟩
    have hk2 : ∀ t ∈ lost, lookI kvs t = none → ∃ w, Perp p n rows w ∧ (∀ s < n, s ∉ lost → p ∣ w s) ∧ ¬ p ∣ w t := fun t ht h => by
      refine hA.out t ht fun z => look_none h ?_
      obtain ⟨q, hq, rfl⟩ := List.mem_map.mp z
      rw [← hkv, List.map_map]
      exact List.mem_map.mpr ⟨q, hq, rfl⟩
    refine ds_cons (for1 6 lost (fun i => .int (i : Int)) (fun i δ => ∃ (es : List D) (a b : Option S), δ = [some (.sh (bkD p n rows)), some (.sh (tN lost)), some (.tab kvs), some (.sh (lR (wordsWithin p n rows lost))), some (.sh (.tuple (List.replicate n [PyData.int 0]).flatten)), some (.own es), a, none, b] ∧ es.length = i ∧ ∀ (j t : Nat) (d : D), lost[j]? = some t → es[j]? = some d → Paper1 p n rows lost t d) PassesOwn.never rfl Sc.nd (dis_tup 6 ?_))
    wtm_at "d"
    refine ⟨by rw [nI, List.map_map]; rfl, ⟨[], none, none, rfl, rfl, fun j t d _ h => by simp at h⟩, fun i t δ' hi hI => ?_, fun δ' hI => ?_⟩
    · obtain ⟨es, a, b, rfl, hes, hP⟩ := hI
      have htm := List.mem_of_getElem? hi
      have htn := hlot.2 t htm
      have hil : i < lost.length := (List.getElem?_eq_some_iff.mp hi).1
      have fin : ∀ d, Paper1 p n rows lost t d → ∀ (j t' : Nat) (d' : D), lost[j]? = some t' → (es ++ [d])[j]? = some d' → Paper1 p n rows lost t' d' := fun d hd j t' d' h1 h2 => by
        by_cases hj : j < i
        · rw [List.getElem?_append_left (by omega)] at h2
          exact hP j t' d' h1 h2
        · have : j = i := by
            have := (List.getElem?_eq_some_iff.mp h2).1
            rw [List.length_append] at this; simp at this; omega
          subst this
          rw [List.getElem?_append_right (by omega), hes] at h2
          rw [hi] at h1
          cases h1
          simp at h2
          subst h2
          exact hd
      refine ds_one (ds_if (dt_cmp (dc_inTab 2 (hu1_of hr) rfl ?_)))
      wtm_at "d"
      cases hlk : lookI kvs (t : Int) with
      | some d =>
        obtain ⟨x, rfl, hx⟩ := hk1 t d hlk
        refine iy rfl (ds_one (ds_append 5 rfl (de_tuple (dd_cons (de_str (dd_cons (de_tab 2 (hu1_of hr) rfl ?_)))))))
        wtm_at "d"
        refine ⟨_, _, rfl, hlk, ?_⟩
        wtm_at "d"
        exact ⟨by rw [List.length_append, hes]; rfl, fin _ (.inl ⟨x, rfl, hx⟩)⟩
      | none =>
        have hw := hk2 t htm hlk
        obtain ⟨r0, hr0, hpos⟩ := hW2 t htn hw
        have hnk : ¬ Known p n rows lost t := fun z => by
          obtain ⟨w, h1, h2, h3⟩ := hw
          exact h3 (z w h1 h2)
        refine ino rfl (ds_one (ds_append 5 rfl (de_tuple (dd_cons (de_str (dd_cons (de_var 4 rfl (dd_cons (de_ix (db_lst (lcf 8 (wordsWithin p n rows lost) tI (fun r => decide (0 < gt r t)) tI rfl Sc.nd (di_list 8 ?_))))))))))))
        wtm_at "d"
        refine ⟨fun r hr' s H C cl fp => ?_, fun r hr' _ s H C cl fp => ?_, ?_⟩
        · refine dt_cmp (dc_gt ?_)
          wtm_at "d"
          refine ⟨_, _, rfl, (hW1 r hr').at_ htn, ?_⟩
          wtm_at "d"
          rfl
        · wtm_at "d"
          rfl
        · wtm_at "d"
          cases e : (wordsWithin p n rows lost).filter (fun r => decide (0 < gt r t)) with
          | nil =>
            have := List.filter_eq_nil_iff.mp e r0 hr0
            exact absurd (decide_eq_true hpos) this
          | cons r1 rs =>
            refine ⟨_, _, rfl, at_head, ?_⟩
            wtm_at "d"
            exact ⟨by rw [List.length_append, hes]; rfl, fin _ (.inr hnk)⟩
    · obtain ⟨es, a, b, rfl, hes, hP⟩ := hI
      refine ds_one (ds_retD (de_tup B.tuple (db_own 5 rfl ⟨es, .inl rfl, ?_⟩)))
      exact hk es hes hP
abbrev F_loss_paper : FS := F_entries_by
theorem c_loss_paper (B : Bl mg) (Df : Def K mg "loss_paper" 59 []) (C_want_lost : Cal P w K mg base "want_lost" 9 [] F_want_lost) (C_entries_by : Cal P w K mg base "entries_by" 7 [] F_entries_by) :
    Cal P w K mg base "loss_paper" 10 [] F_loss_paper := by
  have Sc : FnScope ["book", "lost"] ["book", "lost"] (defScope (tp 59)) := ⟨rfl, rfl, rfl, by decide +kernel, rfl, by decide +kernel, by decide +kernel⟩
  refine cal0 Df Sc (fun _ _ _ _ _ _ us hl => match us, hl with | [_, _], _ => rfl) (fun ss k h => ?_) fun f cdv A outer s H E hr ss k h => ?_
  · obtain ⟨_, _, _, _, rfl, _⟩ := h; rfl
  · obtain ⟨p, n, rows, lost, rfl, hb, hlot, hk⟩ := h
    refine ds_cons (ds_ex (de_callR C_want_lost hr ?_))
    wtm_at "d"
    refine de_callR C_entries_by hr ?_
    wtm_at "d"
    exact hk
end
abbrev lI (l : List Int) : D := .list (l.map .int)
abbrev lN (l : List Nat) : D := lI (nI l)
theorem lay_ints : ∀ l : List Int, PyData.canLayAll0 (l.map .int) = true
  | [] => rfl
  | a :: l => by
    show (PyData.canLay0 (.int a) && PyData.canLayAll0 (l.map .int)) = true
    rw [lay_ints l]; rfl
theorem dep_ints : ∀ l : List Int, PyData.depthAll (l.map .int) = 0
  | [] => rfl
  | a :: l => by
    show max (PyData.depth (.int a)) (PyData.depthAll (l.map .int)) = 0
    rw [dep_ints l]; rfl
theorem shL (l : List Int) : SeqAt.shaped (.list (l.map .int)) = true := by
  show (PyData.canLayAll0 (l.map .int) && decide (PyData.depthAll (l.map .int) + 1 ≤ 64)) = true
  rw [lay_ints, dep_ints]; rfl
theorem shT (l : List Int) : SeqAt.shaped (.tuple (l.map .int)) = true := by
  show (PyData.canLayAll0 (l.map .int) && decide (PyData.depthAll (l.map .int) + 1 ≤ 64)) = true
  rw [lay_ints, dep_ints]; rfl
theorem eqvL (l : List Int) : PyData.eqv (.list (l.map .int)) (.list []) = decide (l = []) := by
  cases l <;> rfl
theorem eqvT (l : List Int) : PyData.eqv (.tuple (l.map .int)) (.tuple []) = decide (l = []) := by
  cases l <;> rfl
theorem nI_nil {l : List Nat} : nI l = [] ↔ l = [] := by unfold nI; exact List.map_eq_nil_iff
theorem erase_map {α β : Type} (f : α → β) : ∀ (l : List α) (j : Nat), (l.map f).eraseIdx j = (l.eraseIdx j).map f
  | [], _ => rfl
  | _ :: _, 0 => rfl
  | a :: l, j + 1 => by
    show f a :: (l.map f).eraseIdx j = f a :: (l.eraseIdx j).map f
    rw [erase_map f l j]
theorem seqIx {m j : Nat} (h : j < m) : seqIndex? (j : Int) m = some j := (ixN_seq (ixN_nat h)).1
/-- rows as the law hands them: tuples or lists -/
def RowsD (d : D) (rows : List (List Int)) : Prop := ∃ ds, isSeq d ds ∧ (ds = rows.map tI ∨ ds = rows.map lI)
theorem RowsD.at {d : D} {rows : List (List Int)} {ds : List D} (h : ds = rows.map tI ∨ ds = rows.map lI) {i : Nat} {x : D} (hx : ds[i]? = some x) : ∃ r, rows[i]? = some r ∧ isSeq x (r.map .int) := by
  rcases h with rfl | rfl
  · rw [List.getElem?_map] at hx
    cases e : rows[i]? with
    | none => rw [e] at hx; cases hx
    | some r => rw [e] at hx; cases hx; exact ⟨r, rfl, .inr rfl⟩
  · rw [List.getElem?_map] at hx
    cases e : rows[i]? with
    | none => rw [e] at hx; cases hx
    | some r => rw [e] at hx; cases hx; exact ⟨r, rfl, .inl rfl⟩
section
variable {P : Program} {w : World} {K : PySem.W.Frag} {mg : Str → Option Value} {base : Heap}
abbrev F__law_less : FS := fun ss k => ∃ (p : Int) (n : Nat) (head row : List Int) (spot : Nat), ss = [.sh (.int p), .sh (lI head), .sh (lI row), .sh (.int spot)] ∧ PrmI p ∧ n ≤ 12 ∧ spot < n ∧ RowOk p n head ∧ RowOk p n row ∧ k (lI (lessL p head spot row))
theorem c__law_less (B : Bl mg) (Df : Def K mg "_law_less" 69 []) :
    Cal P w K mg base "_law_less" 1 [] F__law_less := by
  have Sc : FnScope ["_law_prime", "_law_head", "_law_row_here", "_law_spot", "_law_up", "_law_down", "_law_x", "_law_y"] ["_law_prime", "_law_head", "_law_row_here", "_law_spot"] (defScope (tp 69)) := ⟨rfl, rfl, rfl, by decide +kernel, rfl, by decide +kernel, by decide +kernel⟩
  refine cal0 Df Sc (fun _ _ _ _ _ _ us hl => match us, hl with | [_, _, _, _], _ => rfl) (fun ss k h => ?_) fun f cdv A outer s H E hr ss k h => ?_
  · obtain ⟨_, _, _, _, _, rfl, _⟩ := h; rfl
  · obtain ⟨p, n, head, row, spot, rfl, hp, hn, hs, hh, hr', hk⟩ := h
    have h2 := hp.two
    have hu := hh.at hs
    have hd := hr'.at hs
    refine ds_cons (ds_pair 4 5 rfl Sc.nd (dv_sh (de_ix ?_)))
    wtm_at "d"
    refine ⟨_, _, rfl, hh.at_ hs, ?_⟩
    wtm_at "d"
    refine ⟨_, _, rfl, hr'.at_ hs, ?_⟩
    refine ds_one (ds_retD (de_lst (lc2 6 7 (row.zip head) (fun q => .int q.1) (fun q => .int q.2) (fun q => .int ((q.1 * gt head spot - q.2 * gt row spot) % p)) rfl Sc.nd (di_s (dis_zipL 6 7 B.zip ?_)))))
    wtm_at "d"
    rw [zipWith_map2]
    refine ⟨rfl, by rw [List.length_zip, hr'.1]; omega, fun y hy s H C cl fp => ?_, ?_⟩
    · have h1 := hr'.2 _ (List.of_mem_zip hy).1
      have h3 := hh.2 _ (List.of_mem_zip hy).2
      refine de_mod (de_intc B.int (de_sub (de_mul ?_)))
      wtm_at "d"
      refine ⟨.inl ⟨by omega, by omega⟩, _, rfl, de_mul ?_⟩
      wtm_at "d"
      refine ⟨.inl ⟨by omega, by omega⟩, ?_⟩
      wtm_at "d"
      rfl
    · unfold lessL at hk
      rw [lI, List.map_map] at hk
      exact hk
abbrev F__law_rank : FS := fun ss k => ∃ (p : Int) (n : Nat) (d : D) (rows : List (List Int)), ss = [.sh (.int p), .sh d] ∧ RowsD d rows ∧ PrmI p ∧ n ≤ 12 ∧ rows.length ≤ 20 ∧ (∀ r ∈ rows, RowOk p n r) ∧ k (.int (rankOf p rows))
theorem rank_st {p : Int} {n : Nat} {rows : List (List Int)} (hp : PrmI p) (h : ∀ r ∈ rows, RowOk p n r) : ∀ i, i ≤ n → (∀ r ∈ (rankBy p rows i).1, RowOk p n r) ∧ (rankBy p rows i).1.length ≤ rows.length
  | 0, _ => ⟨h, Nat.le_refl _⟩
  | i + 1, hi => by
    obtain ⟨h1, h2⟩ := rank_st hp h i (by omega)
    rw [rankBy_succ]
    unfold rankStep
    cases e : someOf (rankBy p rows i).1 i with
    | nil => exact ⟨h1, h2⟩
    | cons k ks =>
      have hk := List.mem_range.mp (List.mem_filter.mp (show k ∈ someOf (rankBy p rows i).1 i from e ▸ List.mem_cons_self)).1
      have hkm : (rankBy p rows i).1.getD k [] ∈ (rankBy p rows i).1 := by
        rw [List.getD_eq_getElem?_getD, List.getElem?_eq_getElem hk]; exact List.getElem_mem hk
      refine ⟨fun r hr => ?_, ?_⟩
      · obtain ⟨x, hx, rfl⟩ := List.mem_map.mp hr
        exact lessL_ok hp (h1 _ hkm) (h1 x ((List.eraseIdx_sublist ..).subset hx))
      · show (List.map _ _).length ≤ _
        rw [List.length_map, List.length_eraseIdx]
        split <;> omega
theorem c__law_rank (B : Bl mg) (Df : Def K mg "_law_rank" 68 []) (C__law_less : Cal P w K mg base "_law_less" 1 [] F__law_less) :
    Cal P w K mg base "_law_rank" 2 [] F__law_rank := by
  have Sc : FnScope ["_law_prime", "_law_rows", "_law_left", "_law_found", "_law_spot", "_law_some_here", "_law_head", "_law_row_here", "_law_k"] ["_law_prime", "_law_rows"] (defScope (tp 68)) := ⟨rfl, rfl, rfl, by decide +kernel, rfl, by decide +kernel, by decide +kernel⟩
  refine cal0 Df Sc (fun _ _ _ _ _ _ us hl => match us, hl with | [_, _], _ => rfl) (fun ss k h => ?_) fun f cdv A outer s H E hr ss k h => ?_
  · obtain ⟨_, _, _, _, rfl, _⟩ := h; rfl
  · obtain ⟨p, n, d, rows, rfl, hd, hp, hn, hl, hrows, hk⟩ := h
    have h2 := hp.two
    obtain ⟨ds, hsd, hds⟩ := hd
    have hdl : ds.length = rows.length := by rcases hds with rfl | rfl <;> rw [List.length_map]
    have hds' := hds
    refine ds_mid (fun δ => δ = [some (.sh (.int p)), some (.sh d), some (.own (rows.map lI)), some (.sh (.int 0)), none, none, none, none, none]) (ds_pair 2 3 rfl Sc.nd (dv_own ?_)) fun δ' hJ => ?_
    · rcases hsd with rfl | rfl <;> rcases hds with rfl | rfl
      · refine lc1 7 rows tI lI rfl Sc.nd (di_list 7 ?_)
        wtm_at "d"
        refine ⟨fun y hy s H C cl fp => ?_, ?_⟩
        · refine de_lst (dl_of B.list ?_)
          wtm_at "d"
          rfl
        · wtm_at "d"
          rfl
      · refine lc1 7 rows lI lI rfl Sc.nd (di_list 7 ?_)
        wtm_at "d"
        refine ⟨fun y hy s H C cl fp => ?_, ?_⟩
        · refine de_lst (dl_of B.list ?_)
          wtm_at "d"
          rfl
        · wtm_at "d"
          rfl
      · refine lc1 7 rows tI lI rfl Sc.nd (di_s (dis_tup 7 ?_))
        wtm_at "d"
        refine ⟨fun y hy s H C cl fp => ?_, ?_⟩
        · refine de_lst (dl_of B.list ?_)
          wtm_at "d"
          rfl
        · wtm_at "d"
          rfl
      · refine lc1 7 rows lI lI rfl Sc.nd (di_s (dis_tup 7 ?_))
        wtm_at "d"
        refine ⟨fun y hy s H C cl fp => ?_, ?_⟩
        · refine de_lst (dl_of B.list ?_)
          wtm_at "d"
          rfl
        · wtm_at "d"
          rfl
    · subst hJ
      refine ds_cons (for1 4 (List.range (rows.headD []).length) (fun i => .int (i : Int)) (fun i δ => ∃ a b c, δ = [some (.sh (.int p)), some (.sh d), some (.own ((rankBy p rows i).1.map lI)), some (.sh (.int ((rankBy p rows i).2 : Nat))), a, b, c, none, none]) PassesOwn.never rfl Sc.nd (dis_rngN 4 B.range (DE.imp (k := fun d => d = .int ((rows.headD []).length : Nat)) ?_ fun d hd => ⟨_, hd, ?_, rfl, ?_, fun i y δ' hi hI => ?_, fun δ' hI => ?_⟩)))
      · refine de_if (dt_cmp (dc_gt ?_))
        wtm_at "d"
        refine ⟨ds, hsd, ?_⟩
        wtm_at "d"
        cases rows with
        | nil =>
          have : ds.length = 0 := hdl
          refine ind (by omega) ?_
          wtm_at "d"
          rfl
        | cons r rs =>
          have : ds.length = rs.length + 1 := hdl
          refine iyd (by omega) ?_
          wtm_at "d"
          refine ⟨ds, hsd, ?_⟩
          rcases hds with rfl | rfl
          · wtm_at "d"
            rw [List.length_map]; rfl
          · wtm_at "d"
            rw [List.length_map]; rfl
      · have hw : (rows.headD []).length ≤ n := by
          cases rows with
          | nil => exact Nat.zero_le _
          | cons r rs => exact Nat.le_of_eq (hrows r List.mem_cons_self).1
        omega
      · exact ⟨none, none, none, rfl⟩
      · obtain ⟨a, b, c, rfl⟩ := hI
        have hw : (rows.headD []).length ≤ n := by
          cases rows with
          | nil => exact Nat.zero_le _
          | cons r rs => exact Nat.le_of_eq (hrows r List.mem_cons_self).1
        obtain ⟨hi1, hi2⟩ := List.getElem?_eq_some_iff.mp hi
        have hi1 : i < (rows.headD []).length := by simpa using hi1
        have hi2 : y = i := by simpa using hi2.symm
        subst hi2
        have hyn : y < n := by omega
        obtain ⟨ok, okl⟩ := rank_st hp hrows y (by omega)
        have es := rankBy_succ p rows y
        generalize hst : rankBy p rows y = st at *
        have okr : ∀ j, j < st.1.length → RowOk p n (st.1.getD j []) := fun j hj => ok _ (by rw [List.getD_eq_getElem?_getD, List.getElem?_eq_getElem hj]; exact List.getElem_mem hj)
        have hat : ∀ j, j < st.1.length → atI (st.1.map lI) (j : Int) = some (lI (st.1.getD j [])) := fun j hj => atI_ix rfl (by rw [List.getElem?_map, List.getElem?_eq_getElem hj, List.getD_eq_getElem?_getD, List.getElem?_eq_getElem hj]; rfl)
        refine ds_cons (slcf 5 8 (List.range st.1.length) (fun i => .int (i : Int)) (fun j => decide (gt (st.1.getD j []) y ≠ 0)) (fun i => .int (i : Int)) rfl Sc.nd (di_s (dis_rngN 8 B.range ?_)))
        wtm_at "d"
        refine ⟨by rw [List.length_map]; omega, by rw [List.length_map], by rw [List.length_range]; omega, fun j hj s H C cl fp => ?_, fun j hj _ s H C cl fp => ?_, .inl ?_⟩
        · have hjl : j < st.1.length := List.mem_range.mp hj
          refine dt_cmp (dc_neI ?_)
          wtm_at "d"
          refine ⟨_, _, rfl, hat j hjl, ?_⟩
          wtm_at "d"
          refine ⟨_, _, rfl, (okr j hjl).at_ hyn, ?_⟩
          wtm_at "d"
          simp
        · wtm_at "d"
          rfl
        · have eS : ((List.range st.1.length).filter fun j => decide (gt (st.1.getD j []) y ≠ 0)).map (fun (i : Nat) => PyData.int (i : Int)) = (nI (someOf st.1 y)).map .int := by
            rw [nI, List.map_map]; rfl
          rw [eS]
          refine ds_one (ds_if (dt_cmp (dc_neD (hu_of hr) ?_)))
          wtm_at "d"
          refine ⟨shL _, rfl, ?_⟩
          rw [eqvL]
          unfold rankStep at es
          cases e : someOf st.1 y with
          | nil =>
            rw [e] at es
            have es : rankBy p rows (y + 1) = st := es
            refine inn rfl (ds_nil ⟨some (.sh (.int y)), some (.sh (.list [])), c, ?_⟩)
            rw [es]; rfl
          | cons j js =>
            rw [e] at es
            have hjl := List.mem_range.mp (List.mem_filter.mp (show j ∈ someOf st.1 y from e ▸ List.mem_cons_self)).1
            have hho := okr j hjl
            have hjg : (st.1.map lI)[j]? = some (lI (st.1.getD j [])) := by
              rw [List.getElem?_map, List.getElem?_eq_getElem hjl, List.getD_eq_getElem?_getD, List.getElem?_eq_getElem hjl]; rfl
            refine iyn (by simp [nI]) (ds_cons (ds_popPair 2 6 3 rfl Sc.nd rfl ?_))
            wtm_at "d"
            refine ⟨(j : Int), j, _, rfl, by omega, by omega, seqIx (by rw [List.length_map]; exact hjl), hjg, ?_⟩
            refine de_add ?_
            wtm_at "d"
            have eE : (st.1.map lI).eraseIdx j = (st.1.eraseIdx j).map lI := erase_map _ _ _
            rw [eE]
            have okE : ∀ r ∈ st.1.eraseIdx j, RowOk p n r := fun r hr => ok r ((List.eraseIdx_sublist ..).subset hr)
            have lE : (st.1.eraseIdx j).length ≤ st.1.length := (List.eraseIdx_sublist ..).length_le
            refine ds_set 2 Sc.nd (dv_own (lc1 7 (st.1.eraseIdx j) lI (fun r => lI (lessL p (st.1.getD j []) y r)) rfl Sc.nd (di_list 7 ?_)))
            wtm_at "d"
            refine ⟨fun r hr' s H C cl fp => ?_, ?_⟩
            · have h3 := okE r hr'
              refine de_callR C__law_less hr ?_
              wtm_at "d"
              exact ⟨p, n, _, r, y, rfl, hp, hn, hyn, hho, h3, rfl⟩
            · refine ds_nil ⟨some (.sh (.int y)), some (.sh (.list ((nI (j :: js)).map .int))), some (.sh (lI (st.1.getD j []))), ?_⟩
              have es : rankBy p rows (y + 1) = ((st.1.eraseIdx j).map (lessL p (st.1.getD j []) y), st.2 + 1) := es
              have eM : (st.1.eraseIdx j).map (fun r => lI (lessL p (st.1.getD j []) y r)) = ((st.1.eraseIdx j).map (lessL p (st.1.getD j []) y)).map lI := by rw [List.map_map]; rfl
              rw [es, eM]
              rfl
      · obtain ⟨a, b, c, rfl⟩ := hI
        rw [List.length_range]
        refine ds_one (ds_retD ?_)
        wtm_at "d"
        exact hk
end
theorem nI_app (a b : List Nat) : nI (a ++ b) = nI a ++ nI b := by unfold nI; rw [List.map_append]
noncomputable def knownB (p : Int) (n : Nat) (rows : List (List Int)) (away : List Nat) (t : Nat) : Bool := @decide (Known p n rows away t) (Classical.propDecidable _)
theorem knownB_iff {p : Int} {n : Nat} {rows : List (List Int)} {away : List Nat} {t : Nat} : knownB p n rows away t = true ↔ Known p n rows away t := by unfold knownB; exact @decide_eq_true_iff _ (Classical.propDecidable _)
noncomputable def backOf (p : Int) (n : Nat) (rows : List (List Int)) (away : List Nat) : List Nat := away.filter (knownB p n rows away)
theorem spots_ne {p : Int} {n : Nat} {r : List Int} (h : RowOk p n r) : (List.range n).filter (fun i => decide (gt r i ≠ 0)) = spotsOf n r := by
  unfold spotsOf
  refine List.filter_congr fun i hi => ?_
  have := h.at (List.mem_range.mp hi)
  by_cases e : gt r i = 0
  · rw [e]; rfl
  · have h1 : 0 < gt r i := by omega
    simp [e, h1]
theorem kept_far {n : Nat} {away : List Nat} (h : LotOk n away) : (List.range n).filter (fun s => decide (s ∉ keptOfLot n away)) = away := by
  refine asc_ext (List.pairwise_lt_range.filter _) h.1 fun x => ?_
  unfold keptOfLot
  rw [List.mem_filter, List.mem_range]
  constructor
  · rintro ⟨h1, h2⟩
    have h2 : ¬ x ∈ List.filter (fun s => decide (s ∉ away)) (List.range n) := of_decide_eq_true h2
    rw [List.mem_filter] at h2
    refine Classical.byContradiction fun z => h2 ⟨List.mem_range.mpr h1, by simpa using z⟩
  · intro hx
    refine ⟨h.2 x hx, ?_⟩
    have : ¬ x ∈ List.filter (fun s => decide (s ∉ away)) (List.range n) := fun z => by
      have := (List.mem_filter.mp z).2
      simp at this; exact this hx
    exact decide_eq_true this
section
variable {P : Program} {w : World} {K : PySem.W.Frag} {mg : Str → Option Value} {base : Heap}
abbrev F__law_cut : FS := fun ss k => ∃ (n : Nat) (rows : List (List Int)) (S : List Nat), ss = [.sh (tR rows), .sh (lN S)] ∧ (∀ r ∈ rows, r.length = n) ∧ (∀ x ∈ S, x < n) ∧ rows.length ≤ 40 ∧ S.length ≤ 40 ∧ k (.list ((cutRows rows S).map lI))
abbrev F__law_places : FS := fun ss k => ∃ (p : Int) (n : Nat) (ties : List (List Int)), ss = [.sh (tR ties), .sh (.int n)] ∧ (∀ r ∈ ties, RowOk p n r) ∧ n ≤ 12 ∧ ties.length ≤ 60 ∧ k (.list ((ties.map (spotsOf n)).map lN))
abbrev F__law_goings : FS := fun ss k => ∃ (G : List (List Nat)) (away : List Nat), ss = [.sh (.list (G.map lN)), .sh (tN away)] ∧ G.length ≤ 60 ∧ (∀ pl ∈ G, pl.length ≤ 12) ∧ away.Pairwise (· < ·) ∧ away.length ≤ 12 ∧ k (.tuple [.tuple ((goBy G away).1.map tN), tN (goBy G away).2])
abbrev F__law_is_known : FS := fun ss k => ∃ (p : Int) (n : Nat) (rows : List (List Int)) (away : List Nat) (t : Nat), ss = [.sh (bkD p n rows), .sh (lN (keptOfLot n away)), .sh (.int t)] ∧ BookOk p n rows ∧ LotOk n away ∧ t ∈ away ∧ k (.bool (knownB p n rows away t))
abbrev F__law_back : FS := fun ss k => ∃ (p : Int) (n : Nat) (rows : List (List Int)) (away : List Nat), ss = [.sh (bkD p n rows), .sh (tN away)] ∧ BookOk p n rows ∧ LotOk n away ∧ k (tN (backOf p n rows away))
theorem c__law_cut (B : Bl mg) (Df : Def K mg "_law_cut" 70 []) :
    Cal P w K mg base "_law_cut" 1 [] F__law_cut := by
  have Sc : FnScope ["_law_rows", "_law_spots", "_law_row_here", "_law_k"] ["_law_rows", "_law_spots"] (defScope (tp 70)) := ⟨rfl, rfl, rfl, by decide +kernel, rfl, by decide +kernel, by decide +kernel⟩
  refine cal0 Df Sc (fun _ _ _ _ _ _ us hl => match us, hl with | [_, _], _ => rfl) (fun ss k h => ?_) fun f cdv A outer s H E hr ss k h => ?_
  · obtain ⟨_, _, _, rfl, _⟩ := h; rfl
  · obtain ⟨n, rows, pl, rfl, h1, h2, h3, h4, hk⟩ := h
    refine ds_one (ds_retD (de_lst (lc1 2 rows tI (fun r => lI (pl.map (gt r))) rfl Sc.nd (di_s (dis_tup 2 ?_)))))
    wtm_at "d"
    refine ⟨fun r hr' s H C cl fp => ?_, ?_⟩
    · refine de_lst (lc1 3 pl (fun i => .int (i : Int)) (fun i => .int (gt r i)) rfl Sc.nd (di_list 3 ?_))
      wtm_at "d"
      refine ⟨by rw [nI, List.map_map]; rfl, by omega, fun y hy s H C cl fp => ?_, ?_⟩
      · refine de_ix ?_
        wtm_at "d"
        refine ⟨_, _, rfl, at_row (by rw [h1 r hr']; exact h2 y hy), ?_⟩
        rfl
      · rw [lI, List.map_map]; rfl
    · unfold cutRows at hk
      rw [List.map_map] at hk
      exact hk
theorem c__law_places (B : Bl mg) (Df : Def K mg "_law_places" 71 []) :
    Cal P w K mg base "_law_places" 1 [] F__law_places := by
  have Sc : FnScope ["_law_ties", "_law_size", "_law_row_here", "_law_k"] ["_law_ties", "_law_size"] (defScope (tp 71)) := ⟨rfl, rfl, rfl, by decide +kernel, rfl, by decide +kernel, by decide +kernel⟩
  refine cal0 Df Sc (fun _ _ _ _ _ _ us hl => match us, hl with | [_, _], _ => rfl) (fun ss k h => ?_) fun f cdv A outer s H E hr ss k h => ?_
  · obtain ⟨_, _, _, rfl, _⟩ := h; rfl
  · obtain ⟨p, n, ties, rfl, h1, h2, h3, hk⟩ := h
    refine ds_one (ds_retD (de_lst (lc1 2 ties tI (fun r => lN (spotsOf n r)) rfl Sc.nd (di_s (dis_tup 2 ?_)))))
    wtm_at "d"
    refine ⟨fun r hr' s H C cl fp => ?_, ?_⟩
    · refine de_lst (lcf 3 (List.range n) (fun i => .int (i : Int)) (fun i => decide (gt r i ≠ 0)) (fun i => .int (i : Int)) rfl Sc.nd (di_s (dis_rngN 3 B.range ?_)))
      wtm_at "d"
      refine ⟨by rw [List.length_range]; omega, fun y hy s H C cl fp => ?_, fun y hy _ s H C cl fp => ?_, ?_⟩
      · refine dt_cmp (dc_neI ?_)
        wtm_at "d"
        refine ⟨_, _, rfl, (h1 r hr').at_ (List.mem_range.mp hy), ?_⟩
        wtm_at "d"
        simp
      · wtm_at "d"
        rfl
      · rw [spots_ne (h1 r hr'), lN, lI, nI, List.map_map]; rfl
    · rw [List.map_map] at hk
      exact hk
theorem c__law_goings (B : Bl mg) (Df : Def K mg "_law_goings" 72 []) :
    Cal P w K mg base "_law_goings" 1 [] F__law_goings := by
  have Sc : FnScope ["_law_groups", "_law_away", "_law_left", "_law_found", "_law_lap", "_law_alone", "_law_group", "_law_both", "_law_k"] ["_law_groups", "_law_away"] (defScope (tp 72)) := ⟨rfl, rfl, rfl, by decide +kernel, rfl, by decide +kernel, by decide +kernel⟩
  refine cal0 Df Sc (fun _ _ _ _ _ _ us hl => match us, hl with | [_, _], _ => rfl) (fun ss k h => ?_) fun f cdv A outer s H E hr ss k h => ?_
  · obtain ⟨_, _, rfl, _⟩ := h; rfl
  · obtain ⟨G, away, rfl, hG, hpl, ha, hal, hk⟩ := h
    refine ds_cons (ds_pair 2 3 rfl Sc.nd (dv_sh (de_lst (dl_of B.list ?_))))
    wtm_at "d"
    refine dv_own (dl_list (dd_nil ⟨Nat.zero_le _, ?_⟩))
    have lapok : ∀ i, i ≤ away.length → (laps G i ([], away)).2.Pairwise (· < ·) ∧ (laps G i ([], away)).1.length ≤ i ∧ (laps G i ([], away)).2.length ≤ away.length := fun i => by
      induction i with
      | zero => intro _; exact ⟨ha, Nat.le_refl _, Nat.le_refl _⟩
      | succ i ih =>
        intro hi
        obtain ⟨h1, h2, h3⟩ := ih (by omega)
        rw [laps_succ]
        unfold lapOf
        split
        · exact ⟨h1, by omega, h3⟩
        · refine ⟨h1.filter _, by show (_ ++ [_]).length ≤ _; rw [List.length_append]; show _ + 1 ≤ _; omega, ?_⟩
          exact Nat.le_trans (List.length_filter_le _ _) h3
    refine ds_cons (for1 4 (List.range away.length) (fun i => .int (i : Int)) (fun i δ => ∃ a b c d, δ = [some (.sh (.list (G.map lN))), some (.sh (tN away)), some (.sh (lN (laps G i ([], away)).2)), some (.own ((laps G i ([], away)).1.map tN)), a, b, c, d, none]) PassesOwn.never rfl Sc.nd (dis_rngN 4 B.range ?_))
    wtm_at "d"
    have e0 : ((nI away).map PyData.int).length = away.length := by rw [nI, List.length_map, List.length_map]
    refine ⟨by rw [e0]; omega, by rw [e0], ⟨none, none, none, none, rfl⟩, fun i y δ' hi hI => ?_, fun δ' hI => ?_⟩
    · obtain ⟨a, b, c, d, rfl⟩ := hI
      obtain ⟨hi1, hi2⟩ := List.getElem?_eq_some_iff.mp hi
      have hi1 : i < away.length := by simpa using hi1
      have hi2 : y = i := by simpa using hi2.symm
      subst hi2
      obtain ⟨hla, hfl, hll⟩ := lapok y (by omega)
      have es := laps_succ G y ([], away)
      generalize hst : laps G y ([], away) = st at *
      refine ds_cons (ds_set 5 Sc.nd (dv_own (dl_list (dd_nil ⟨Nat.zero_le _, ?_⟩))))
      refine ds_mid (fun δ => ∃ c d, δ = [some (.sh (.list (G.map lN))), some (.sh (tN away)), some (.sh (lN st.2)), some (.own (st.1.map tN)), some (.sh (.int y)), some (.own ((nI (aloneOf G st.2)).map .int)), c, d, none])
        (for1 6 G lN (fun j δ => ∃ c d, δ = [some (.sh (.list (G.map lN))), some (.sh (tN away)), some (.sh (lN st.2)), some (.own (st.1.map tN)), some (.sh (.int y)), some (.own ((nI (aloneOf (G.take j) st.2)).map .int)), c, d, none]) PassesOwn.never rfl Sc.nd (dis_list 6 ?_)) fun δ' hJ => ?_
      · wtm_at "d"
        refine ⟨⟨c, d, rfl⟩, fun j pl δ' hj hI => ?_, fun δ' hI => ?_⟩
        · obtain ⟨c, d, rfl⟩ := hI
          have hplm := hpl pl (List.mem_of_getElem? hj)
          have hjl : j < G.length := (List.getElem?_eq_some_iff.mp hj).1
          have htk : aloneOf (G.take (j + 1)) st.2 = aloneOf (G.take j) st.2 ++ (if (onlyOf pl st.2).length = 1 then onlyOf pl st.2 else []) := by
            unfold aloneOf
            rw [List.take_succ, hj, Option.toList_some, List.flatMap_append]; simp
          have hlen : (aloneOf (G.take j) st.2).length ≤ j := Nat.le_trans (alone_len _ _) (by rw [List.length_take]; omega)
          refine ds_cons (slcf 7 8 pl (fun i => .int (i : Int)) (fun x => decide (x ∈ st.2)) (fun i => .int (i : Int)) rfl Sc.nd (di_list 8 ?_))
          wtm_at "d"
          refine ⟨by rw [nI, List.map_map]; rfl, by omega, fun x _ s H C cl fp => ?_, fun x _ _ s H C cl fp => ?_, .inl ?_⟩
          · refine dt_cmp (dc_in ?_)
            wtm_at "d"
            simp only [mem_nI]
          · wtm_at "d"
            rfl
          · have el : ((pl.filter fun x => decide (x ∈ st.2)).map fun (i : Nat) => PyData.int (i : Int)) = (nI (onlyOf pl st.2)).map .int := by
              rw [nI, List.map_map]; rfl
            rw [el]
            have e1 : ((nI (onlyOf pl st.2)).map PyData.int).length = (onlyOf pl st.2).length := by rw [nI, List.length_map, List.length_map]
            refine ds_one (ds_if (dt_cmp (dc_eqI ?_)))
            wtm_at "d"
            rw [e1]
            refine isd (fun e => ?_) fun e => ?_
            · have e : (onlyOf pl st.2).length = 1 := by omega
              obtain ⟨t, ht⟩ : ∃ t, onlyOf pl st.2 = [t] := by
                match onlyOf pl st.2, e with
                | [t], _ => exact ⟨t, rfl⟩
              rw [if_pos e] at htk
              refine ds_one (ds_append 5 rfl (de_ix ?_))
              wtm_at "d"
              rw [ht] at htk ⊢
              refine ⟨_, _, rfl, at_head, by rw [nI, List.length_map, List.length_map]; omega, some (.sh (lN pl)), some (.sh (lN [t])), ?_⟩
              rw [htk, nI_app, List.map_append]
              rfl
            · have e : ¬ (onlyOf pl st.2).length = 1 := fun z => e (by omega)
              rw [if_neg e, List.append_nil] at htk
              refine ds_nil ⟨some (.sh (lN pl)), some (.sh (lN (onlyOf pl st.2))), ?_⟩
              rw [htk]
              rfl
        · obtain ⟨c, d, rfl⟩ := hI
          rw [List.take_length]
          exact ⟨c, d, rfl⟩
      · obtain ⟨c, d, rfl⟩ := hJ
        refine ds_one (ds_if (dt_cmp (dc_neD (hu_of hr) ?_)))
        wtm_at "d"
        refine ⟨shL _, rfl, ?_⟩
        rw [eqvL]
        unfold lapOf at es
        by_cases e : aloneOf G st.2 = []
        · rw [if_pos e] at es
          refine inn (by rw [e]; rfl) (ds_nil ⟨some (.sh (.int y)), some (.own ((nI (aloneOf G st.2)).map .int)), c, d, ?_⟩)
          rw [es]
        · rw [if_neg e] at es
          refine iyn (fun z => e (nI_nil.mp z)) (ds_cons (ds_append 3 rfl (de_tup B.tuple (db_lst (dl_sset rfl B.sorted B.set (db_own 5 rfl ⟨_, rfl, ?_, fun out ho => ?_⟩))))))
          · rw [nI, List.length_map]; have := alone_len G st.2; omega
          · rw [ss_mended hla ho]
            refine ⟨_, .inl rfl, by rw [List.length_map]; omega, ?_⟩
            refine ds_one (ds_set 2 Sc.nd (dv_sh (de_lst (lcf 8 st.2 (fun i => .int (i : Int)) (fun x => decide (x ∉ aloneOf G st.2)) (fun i => .int (i : Int)) rfl Sc.nd (di_list 8 ?_)))))
            wtm_at "d"
            refine ⟨by rw [nI, List.map_map]; rfl, by omega, fun x _ s H C cl fp => ?_, fun x _ _ s H C cl fp => ?_, ?_⟩
            · refine dt_cmp (dc_notin ?_)
              wtm_at "d"
              simp only [mem_nI, decide_not]
            · wtm_at "d"
              rfl
            · rw [less_alone]
              have el : ((lessOf st.2 (mendedOf G st.2)).map fun (i : Nat) => PyData.int (i : Int)) = (nI (lessOf st.2 (mendedOf G st.2))).map .int := by
                rw [nI, List.map_map]; rfl
              rw [el]
              refine ⟨some (.sh (.int y)), some (.own ((nI (aloneOf G st.2)).map .int)), c, d, ?_⟩
              rw [es, List.map_append]
              rfl
    · obtain ⟨a, b, c, d, rfl⟩ := hI
      rw [List.length_range, laps_by]
      refine ds_one (ds_retD (de_tuple (dd_cons (de_tup B.tuple (db_own 3 rfl ⟨_, .inl rfl, dd_cons (de_tup B.tuple ?_)⟩)))))
      wtm_at "d"
      exact hk
theorem c__law_is_known (B : Bl mg) (Df : Def K mg "_law_is_known" 74 []) (C__law_rank : Cal P w K mg base "_law_rank" 2 [] F__law_rank) (C__law_cut : Cal P w K mg base "_law_cut" 1 [] F__law_cut) :
    Cal P w K mg base "_law_is_known" 3 [] F__law_is_known := by
  have Sc : FnScope ["_law_base", "_law_lot_here", "_law_here", "_law_far", "_law_near", "_law_k"] ["_law_base", "_law_lot_here", "_law_here"] (defScope (tp 74)) := ⟨rfl, rfl, rfl, by decide +kernel, rfl, by decide +kernel, by decide +kernel⟩
  refine cal0 Df Sc (fun _ _ _ _ _ _ us hl => match us, hl with | [_, _, _], _ => rfl) (fun ss k h => ?_) fun f cdv A outer s H E hr ss k h => ?_
  · obtain ⟨_, _, _, _, _, rfl, _⟩ := h; rfl
  · obtain ⟨p, n, rows, away, t, rfl, hb, hlot, ht, hk⟩ := h
    have hn := hb.n2
    have hp := hb.prm
    have hfew := hb.few
    have hrow : ∀ r ∈ rows, RowOk p n r := fun r hr => (hb.sum r hr).1
    have htn := hlot.2 t ht
    have hL := lot_len hlot
    have hno : t ∉ keptOfLot n away := fun z => by
      have := (List.mem_filter.mp z).2
      simp at this; exact this ht
    refine ds_cons (ds_if (dt_cmp (dc_in ?_)))
    wtm_at "d"
    refine ino (by simp only [mem_nI]; exact decide_eq_false hno) (ds_nil ?_)
    refine ds_cons (slcf 3 5 (List.range n) (fun i => .int (i : Int)) (fun s => decide (s ∉ keptOfLot n away)) (fun i => .int (i : Int)) rfl Sc.nd (di_s (dis_rngN 5 B.range ?_)))
    wtm_at "d"
    refine ⟨by rw [List.length_range]; omega, fun x _ s H C cl fp => ?_, fun x _ _ s H C cl fp => ?_, .inl ?_⟩
    · refine dt_cmp (dc_notin ?_)
      wtm_at "d"
      simp only [mem_nI, decide_not]
    · wtm_at "d"
      rfl
    · rw [kept_far hlot]
      refine ds_cons (slcf 4 5 away (fun i => .int (i : Int)) (fun s => decide (s ≠ t)) (fun i => .int (i : Int)) rfl Sc.nd (di_list 5 ?_))
      wtm_at "d"
      refine ⟨fun x _ s H C cl fp => ?_, fun x _ _ s H C cl fp => ?_, .inl ?_⟩
      · refine dt_cmp (dc_neI ?_)
        wtm_at "d"
        simp [Int.ofNat_inj]
      · wtm_at "d"
        rfl
      · have el : ∀ l : List Nat, (l.map fun (i : Nat) => PyData.int (i : Int)) = (nI l).map .int := fun l => by rw [nI, List.map_map]; rfl
        rw [el, el]
        have hN : LotOk n (away.filter fun s => decide (s ≠ t)) := ⟨hlot.1.filter _, fun x hx => hlot.2 x (List.mem_filter.mp hx).1⟩
        have hNl := lot_len hN
        have hlen : ∀ r ∈ rows, r.length = n := fun r hr => (hrow r hr).1
        refine ds_one (ds_retD (de_cmp (dc_gt (de_callR C__law_rank hr (da_cons ?_)))))
        wtm_at "d"
        refine de_callR C__law_cut hr ?_
        wtm_at "d"
        refine ⟨n, rows, away, rfl, hlen, hlot.2, by omega, by omega, ?_⟩
        wtm_at "d"
        refine ⟨p, away.length, _, cutRows rows away, rfl, ⟨_, .inl rfl, .inr rfl⟩, hp, by omega, by unfold cutRows; rw [List.length_map]; omega, cut_rows_ok hrow hlot.2, _, rfl, ?_⟩
        refine de_callR C__law_rank hr (da_cons ?_)
        wtm_at "d"
        refine de_callR C__law_cut hr ?_
        wtm_at "d"
        refine ⟨n, rows, away.filter fun s => decide (s ≠ t), rfl, hlen, hN.2, by omega, by omega, ?_⟩
        wtm_at "d"
        refine ⟨p, (away.filter fun s => decide (s ≠ t)).length, _, cutRows rows (away.filter fun s => decide (s ≠ t)), rfl, ⟨_, .inl rfl, .inr rfl⟩, hp, by omega, by unfold cutRows; rw [List.length_map]; omega, cut_rows_ok hrow hN.2, _, rfl, ?_⟩
        have e : decide (((rankOf p (cutRows rows (away.filter fun s => decide (s ≠ t))) : Nat) : Int) < ((rankOf p (cutRows rows away) : Nat) : Int)) = knownB p n rows away t := by
          rw [Bool.eq_iff_iff, decide_eq_true_iff, knownB_iff, ← rank_known hp hrow hlot ht]
          omega
        rw [e]
        exact hk
theorem c__law_back (B : Bl mg) (Df : Def K mg "_law_back" 75 []) (C__law_is_known : Cal P w K mg base "_law_is_known" 3 [] F__law_is_known) :
    Cal P w K mg base "_law_back" 4 [] F__law_back := by
  have Sc : FnScope ["_law_base", "_law_away", "_law_kept", "_law_k"] ["_law_base", "_law_away"] (defScope (tp 75)) := ⟨rfl, rfl, rfl, by decide +kernel, rfl, by decide +kernel, by decide +kernel⟩
  refine cal0 Df Sc (fun _ _ _ _ _ _ us hl => match us, hl with | [_, _], _ => rfl) (fun ss k h => ?_) fun f cdv A outer s H E hr ss k h => ?_
  · obtain ⟨_, _, _, _, rfl, _⟩ := h; rfl
  · obtain ⟨p, n, rows, away, rfl, hb, hlot, hk⟩ := h
    have hn := hb.n2
    have hL := lot_len hlot
    refine ds_cons (ds_set 2 Sc.nd (dv_sh (de_lst (lcf 3 (List.range n) (fun i => .int (i : Int)) (fun s => decide (s ∉ away)) (fun i => .int (i : Int)) rfl Sc.nd (di_s (dis_rngN 3 B.range ?_))))))
    wtm_at "d"
    refine ⟨by rw [List.length_range]; omega, fun x _ s H C cl fp => ?_, fun x _ _ s H C cl fp => ?_, ?_⟩
    · refine dt_cmp (dc_notin ?_)
      wtm_at "d"
      simp only [mem_nI, decide_not]
    · wtm_at "d"
      rfl
    · have el : ((List.range n).filter fun s => decide (s ∉ away)).map (fun (i : Nat) => PyData.int (i : Int)) = (nI (keptOfLot n away)).map .int := by rw [nI, List.map_map]; rfl
      rw [el]
      refine ds_one (ds_retD (de_tup B.tuple (db_lst (lcf 3 away (fun i => .int (i : Int)) (knownB p n rows away) (fun i => .int (i : Int)) rfl Sc.nd (di_s (dis_tup 3 ?_))))))
      wtm_at "d"
      refine ⟨by rw [nI, List.map_map]; rfl, by omega, fun x hx s H C cl fp => ?_, fun x _ _ s H C cl fp => ?_, ?_⟩
      · refine dt_val (de_callR C__law_is_known hr ?_)
        wtm_at "d"
        rfl
      · wtm_at "d"
        rfl
      · wtm_at "d"
        unfold backOf at hk
        rw [tN, tI, nI, List.map_map] at hk
        exact hk
end
theorem filt_no {α : Type} (l : List α) : l.filter (fun _ => false) = [] := List.filter_eq_nil_iff.mpr fun _ _ => by simp
def gd : Nat → D → Prop
  | 0, d => (∃ i, d = .int i) ∨ ∃ b, d = .bool b
  | m + 1, d => (∃ i, d = .int i) ∨ (∃ b, d = .bool b) ∨ ∃ ds, isSeq d ds ∧ ds.length < 1000 ∧ ∀ x ∈ ds, gd m x
section
variable {P : Program} {w : World} {K : PySem.W.Frag} {mg : Str → Option Value} {base : Heap}
abbrev F__law_is_row : FS := fun ss k => ∃ (p : Int) (n : Nat) (x : List Int), ss = [.sh (tI x), .sh (.int p), .sh (.int n)] ∧ RowOk p n x ∧ n ≤ 12 ∧ k (.bool true)
abbrev F__law_is_sum : FS := fun ss k => ∃ (p : Int) (n : Nat) (rows : List (List Int)) (x : List Int), ss = [.sh (bkD p n rows), .sh (tI x)] ∧ BookOk p n rows ∧ SumOk p n x ∧ InSp p n rows x ∧ k (.bool true)
def F_same (m : Nat) : FS := fun ss k => ∃ d, ss = [.sh d, .sh d] ∧ gd m d ∧ k (.bool true)
theorem c__law_is_row (B : Bl mg) (Df : Def K mg "_law_is_row" 76 []) :
    Cal P w K mg base "_law_is_row" 1 [] F__law_is_row := by
  have Sc : FnScope ["_law_one", "_law_prime", "_law_size", "_law_x"] ["_law_one", "_law_prime", "_law_size"] (defScope (tp 76)) := ⟨rfl, rfl, rfl, by decide +kernel, rfl, by decide +kernel, by decide +kernel⟩
  refine cal0 Df Sc (fun _ _ _ _ _ _ us hl => match us, hl with | [_, _, _], _ => rfl) (fun ss k h => ?_) fun f cdv A outer s H E hr ss k h => ?_
  · obtain ⟨_, _, _, rfl, _⟩ := h; rfl
  · obtain ⟨p, n, x, rfl, hx, hn, hk⟩ := h
    have hl := hx.1
    refine ds_cons (ds_if (dt_or (dt_not (dt_val (de_isiC "tuple" "tuple" true B.isinstance B.tuple (by decide +kernel) (by decide +kernel) ?_)))))
    wtm_at "d"
    refine ino rfl ?_
    wtm_at "d"
    refine inn (by rw [List.length_map, hl]) (ds_nil ?_)
    refine ds_cons (ds_if (dt_cmp (dc_neD (hu_of hr) (db_lst (lcf 3 x .int (fun _ => false) .int rfl Sc.nd (di_s (dis_tup 3 ?_)))))))
    wtm_at "d"
    refine ⟨fun y hy s H C cl fp => ?_, fun y hy h => (by cases h), ?_⟩
    · refine dt_or (dt_val (de_isiC "bool" "int" false B.isinstance B.bool (by decide +kernel) (by decide +kernel) ?_))
      wtm_at "d"
      refine ino rfl (dt_not (dt_val (de_isiC "int" "int" true B.isinstance B.int (by decide +kernel) (by decide +kernel) ?_)))
      wtm_at "d"
      rfl
    · rw [filt_no]
      wtm_at "d"
      refine ino rfl (ds_nil ?_)
      refine ds_one (ds_retD (de_cmp (dc_eqD (hu_of hr) (db_lst (lcf 3 x .int (fun _ => false) .int rfl Sc.nd (di_s (dis_tup 3 ?_)))))))
      wtm_at "d"
      refine ⟨fun y hy s H C cl fp => ?_, fun y hy h => (by cases h), ?_⟩
      · have hy' := hx.2 y hy
        refine dt_or (dt_cmp (dc_lt ?_))
        wtm_at "d"
        refine ind (by omega) ?_
        wtm_at "d"
        exact decide_eq_false (by omega)
      · rw [filt_no]
        wtm_at "d"
        exact hk
theorem c__law_is_sum (B : Bl mg) (Df : Def K mg "_law_is_sum" 77 []) (C__law_is_row : Cal P w K mg base "_law_is_row" 1 [] F__law_is_row) (C__law_rank : Cal P w K mg base "_law_rank" 2 [] F__law_rank) :
    Cal P w K mg base "_law_is_sum" 3 [] F__law_is_sum := by
  have Sc : FnScope ["_law_base", "_law_one", "_law_x"] ["_law_base", "_law_one"] (defScope (tp 77)) := ⟨rfl, rfl, rfl, by decide +kernel, rfl, by decide +kernel, by decide +kernel⟩
  refine cal0 Df Sc (fun _ _ _ _ _ _ us hl => match us, hl with | [_, _], _ => rfl) (fun ss k h => ?_) fun f cdv A outer s H E hr ss k h => ?_
  · obtain ⟨_, _, _, _, rfl, _⟩ := h; rfl
  · obtain ⟨p, n, rows, x, rfl, hb, hx, hs, hk⟩ := h
    have hn := hb.n2
    have hp := hb.prm
    have hfew := hb.few
    have hrow : ∀ r ∈ rows, RowOk p n r := fun r hr => (hb.sum r hr).1
    have hrow' : ∀ r ∈ rows ++ [x], RowOk p n r := fun r hr => by
      rcases List.mem_append.mp hr with hr | hr
      · exact hrow r hr
      · rw [List.mem_singleton.mp hr]; exact hx.1
    have hxo := hx.1
    have hxl := hx.1.1
    refine ds_cons (ds_if (dt_or (dt_not (dt_val (de_callR C__law_is_row hr ?_)))))
    wtm_at "d"
    refine ino rfl (dt_cmp (dc_eqD (hu_of hr) (db_lst (lcf 2 x .int (fun i => decide (i ≠ 0)) .int rfl Sc.nd (di_s (dis_tup 2 ?_))))))
    wtm_at "d"
    refine ⟨fun y hy s H C cl fp => ?_, fun y hy _ s H C cl fp => ?_, ?_⟩
    · refine dt_cmp (dc_neI ?_)
      wtm_at "d"
      simp
    · wtm_at "d"
      rfl
    · wtm_at "d"
      refine ⟨shL _, rfl, ?_⟩
      rw [eqvL]
      obtain ⟨y, hy, hy0⟩ := hx.2
      refine ind (fun z => ?_) (ds_nil ?_)
      · have := List.filter_eq_nil_iff.mp z y hy
        simp at this; exact hy0 this
      refine ds_one (ds_retD (de_cmp (dc_eqI (de_callR C__law_rank hr ?_))))
      wtm_at "d"
      refine ⟨p, n, _, rows, rfl, ⟨_, .inr rfl, .inl rfl⟩, hp, hn, by omega, hrow, _, rfl, ?_⟩
      refine de_callR C__law_rank hr (da_cons (de_ix ?_))
      wtm_at "d"
      refine de_catT ?_
      wtm_at "d"
      refine ⟨by rw [List.length_map]; show _ + 1 ≤ _; omega, ?_⟩
      wtm_at "d"
      refine ⟨p, n, _, rows ++ [x], rfl, ⟨_, .inr rfl, .inl (by rw [List.map_append]; rfl)⟩, hp, hn, by rw [List.length_append]; show _ + 1 ≤ _; omega, hrow', _, rfl, ?_⟩
      have e : rankOf p rows = rankOf p (rows ++ [x]) := rank_same hp hrow hrow' fun w => by
        constructor
        · intro h r hr
          rcases List.mem_append.mp hr with hr | hr
          · exact h r hr
          · rw [List.mem_singleton.mp hr]; exact hs w h
        · intro h r hr; exact h r (List.mem_append_left _ hr)
      rw [e, decide_eq_true rfl]
      exact hk
theorem c_same (B : Bl mg) (Df : Def K mg "_law_same" 78 []) : ∀ m : Nat, Cal P w K mg base "_law_same" (m + 1) [] (F_same m) := fun m => by
  have Sc : FnScope ["_law_due", "_law_told", "_law_is_alike", "_law_k"] ["_law_due", "_law_told"] (defScope (tp 78)) := ⟨rfl, rfl, rfl, by decide +kernel, rfl, by decide +kernel, by decide +kernel⟩
  have leafI : ∀ (lv : Nat) (f : Addr) (cdv : Value) (A : Around) (outer : List Env) (s : Shared) (H : Hp) (E : XK), Room lv (A.deeper (PyProof.Rows.envOfC "_law_same" (defScope (tp 78)) s.heap.objs.size f cdv)) → ∀ (k : D → Prop) (i : Int), k (.bool true) →
      DSs (bodyX P w K mg base ["_law_due", "_law_told", "_law_is_alike", "_law_k"] "_law_same" (defScope (tp 78)) f cdv A outer s H E) (defBody (tp 78)) (startD ["_law_due", "_law_told", "_law_is_alike", "_law_k"] [.sh (.int i), .sh (.int i)]) { nx := fun _ => k .none, rt := k } := fun lv f cdv A outer s H E hr k i hk => by
    refine ds_cons (ds_if (dt_or (dt_val (de_isiC "tuple" "int" false B.isinstance B.tuple (by decide +kernel) (by decide +kernel) ?_))))
    wtm_at "d"
    refine ino rfl (dt_val (de_isiC "list" "int" false B.isinstance B.list (by decide +kernel) (by decide +kernel) ?_))
    wtm_at "d"
    refine ino rfl (ds_nil ?_)
    wtm_at "d"
    refine ino rfl ?_
    wtm_at "d"
    refine ino rfl (ds_nil ?_)
    refine ds_cons (ds_if (dt_or (dt_val (de_isiC "str" "int" false B.isinstance B.str (by decide +kernel) (by decide +kernel) ?_))))
    wtm_at "d"
    refine ino rfl (dt_val (de_isiC "str" "int" false B.isinstance B.str (by decide +kernel) (by decide +kernel) ?_))
    wtm_at "d"
    refine ino rfl (ds_nil ?_)
    refine ds_cons (ds_if (dt_or (dt_val (de_isiC "bool" "int" false B.isinstance B.bool (by decide +kernel) (by decide +kernel) ?_))))
    wtm_at "d"
    refine ino rfl (dt_val (de_isiC "bool" "int" false B.isinstance B.bool (by decide +kernel) (by decide +kernel) ?_))
    wtm_at "d"
    refine ino rfl (ds_nil ?_)
    refine ds_one (ds_retD (de_and (de_isiC "int" "int" true B.isinstance B.int (by decide +kernel) (by decide +kernel) ?_)))
    wtm_at "d"
    refine iy rfl (de_and (de_isiC "int" "int" true B.isinstance B.int (by decide +kernel) (by decide +kernel) ?_))
    wtm_at "d"
    refine iy rfl ?_
    wtm_at "d"
    rw [decide_eq_true rfl]
    exact hk
  have leafB : ∀ (lv : Nat) (f : Addr) (cdv : Value) (A : Around) (outer : List Env) (s : Shared) (H : Hp) (E : XK), Room lv (A.deeper (PyProof.Rows.envOfC "_law_same" (defScope (tp 78)) s.heap.objs.size f cdv)) → ∀ (k : D → Prop) (i : Bool), k (.bool true) →
      DSs (bodyX P w K mg base ["_law_due", "_law_told", "_law_is_alike", "_law_k"] "_law_same" (defScope (tp 78)) f cdv A outer s H E) (defBody (tp 78)) (startD ["_law_due", "_law_told", "_law_is_alike", "_law_k"] [.sh (.bool i), .sh (.bool i)]) { nx := fun _ => k .none, rt := k } := fun lv f cdv A outer s H E hr k i hk => by
    refine ds_cons (ds_if (dt_or (dt_val (de_isiC "tuple" "bool" false B.isinstance B.tuple (by decide +kernel) (by decide +kernel) ?_))))
    wtm_at "d"
    refine ino rfl (dt_val (de_isiC "list" "bool" false B.isinstance B.list (by decide +kernel) (by decide +kernel) ?_))
    wtm_at "d"
    refine ino rfl (ds_nil ?_)
    wtm_at "d"
    refine ino rfl ?_
    wtm_at "d"
    refine ino rfl (ds_nil ?_)
    refine ds_cons (ds_if (dt_or (dt_val (de_isiC "str" "bool" false B.isinstance B.str (by decide +kernel) (by decide +kernel) ?_))))
    wtm_at "d"
    refine ino rfl (dt_val (de_isiC "str" "bool" false B.isinstance B.str (by decide +kernel) (by decide +kernel) ?_))
    wtm_at "d"
    refine ino rfl (ds_nil ?_)
    refine ds_cons (ds_if (dt_or (dt_val (de_isiC "bool" "bool" true B.isinstance B.bool (by decide +kernel) (by decide +kernel) ?_))))
    wtm_at "d"
    refine iy rfl (ds_one (ds_retD (de_and (de_isiC "bool" "bool" true B.isinstance B.bool (by decide +kernel) (by decide +kernel) ?_))))
    wtm_at "d"
    refine iy rfl (de_and (de_isiC "bool" "bool" true B.isinstance B.bool (by decide +kernel) (by decide +kernel) ?_))
    wtm_at "d"
    refine iy rfl (de_one (de_cmp (dc_eqD (hu_of hr) (db_of (de_var 0 rfl (db_of (de_var 1 rfl ⟨rfl, rfl, ?_⟩)))))))
    have e : PyData.eqv (.bool i) (.bool i) = true := by cases i <;> rfl
    rw [e]
    exact hk
  induction m with
  | zero =>
    refine cal0 Df Sc (fun _ _ _ _ _ _ us hl => match us, hl with | [_, _], _ => rfl) (fun ss k h => ?_) fun f cdv A outer s H E hr ss k h => ?_
    · obtain ⟨_, rfl, _⟩ := h; rfl
    · obtain ⟨d, rfl, hg, hk⟩ := h
      rcases hg with ⟨i, rfl⟩ | ⟨b, rfl⟩
      · exact leafI _ f cdv A outer s H E hr k i hk
      · exact leafB _ f cdv A outer s H E hr k b hk
  | succ m ih =>
    refine cal0 Df Sc (fun _ _ _ _ _ _ us hl => match us, hl with | [_, _], _ => rfl) (fun ss k h => ?_) fun f cdv A outer s H E hr ss k h => ?_
    · obtain ⟨_, rfl, _⟩ := h; rfl
    obtain ⟨d, rfl, hg, hk⟩ := h
    rcases hg with ⟨i, rfl⟩ | ⟨b, rfl⟩ | ⟨ds, hsd, hdl, hg⟩
    · exact leafI _ f cdv A outer s H E hr k i hk
    · exact leafB _ f cdv A outer s H E hr k b hk
    rcases hsd with rfl | rfl
    · skip
      refine ds_cons (ds_if (dt_or (dt_val (de_isiC "tuple" "list" false B.isinstance B.tuple (by decide +kernel) (by decide +kernel) ?_))))
      wtm_at "d"
      refine ino rfl (dt_val (de_isiC "list" "list" true B.isinstance B.list (by decide +kernel) (by decide +kernel) ?_))
      wtm_at "d"
      refine iy rfl ?_
      refine ds_cons (ds_set 2 Sc.nd (dv_sh (de_cmp (dc_eqD (hu_of hr) (db_of (de_isiC "tuple" "list" false B.isinstance B.tuple (by decide +kernel) (by decide +kernel) ?_))))))
      wtm_at "d"
      refine de_isiC "tuple" "list" false B.isinstance B.tuple (by decide +kernel) (by decide +kernel) ?_
      wtm_at "d"
      refine ino rfl (dw_or (dt_cmp (dc_neD (hu_of hr) (db_of (de_isiC "list" "list" true B.isinstance B.list (by decide +kernel) (by decide +kernel) ?_)))))
      wtm_at "d"
      refine de_isiC "list" "list" true B.isinstance B.list (by decide +kernel) (by decide +kernel) ?_
      wtm_at "d"
      refine ino rfl ?_
      wtm_at "d"
      refine inn rfl (ds_nil ?_)
      refine ds_one (ds_retD (de_cmp (dc_eqD (hu_of hr) (db_lst (lcf 3 (List.range ds.length) (fun i => .int (i : Int)) (fun _ => false) (fun i => .int (i : Int)) rfl Sc.nd (di_s (dis_rngN 3 B.range ?_)))))))
      wtm_at "d"
      refine ⟨by rw [List.length_range]; omega, fun y hy s H C cl fp => ?_, fun y hy h => (by cases h), ?_⟩
      · have hyl : y < ds.length := List.mem_range.mp hy
        have hat : atI ds (y : Int) = some ds[y] := atI_ix rfl (List.getElem?_eq_getElem hyl)
        refine dt_not (dt_val (de_callR ih hr (da_cons (de_ix ?_)) (Nat.le_refl _)))
        wtm_at "d"
        refine ⟨_, _, rfl, hat, da_cons (de_ix ?_)⟩
        wtm_at "d"
        refine ⟨_, _, rfl, hat, ?_⟩
        wtm_at "d"
        exact ⟨ds[y], rfl, hg _ (List.getElem_mem hyl), _, rfl, rfl⟩
      · rw [filt_no]
        wtm_at "d"
        exact hk
    · skip
      refine ds_cons (ds_if (dt_or (dt_val (de_isiC "tuple" "tuple" true B.isinstance B.tuple (by decide +kernel) (by decide +kernel) ?_))))
      wtm_at "d"
      refine iy rfl ?_
      refine ds_cons (ds_set 2 Sc.nd (dv_sh (de_cmp (dc_eqD (hu_of hr) (db_of (de_isiC "tuple" "tuple" true B.isinstance B.tuple (by decide +kernel) (by decide +kernel) ?_))))))
      wtm_at "d"
      refine de_isiC "tuple" "tuple" true B.isinstance B.tuple (by decide +kernel) (by decide +kernel) ?_
      wtm_at "d"
      refine ino rfl (dw_or (dt_cmp (dc_neD (hu_of hr) (db_of (de_isiC "list" "tuple" false B.isinstance B.list (by decide +kernel) (by decide +kernel) ?_)))))
      wtm_at "d"
      refine de_isiC "list" "tuple" false B.isinstance B.list (by decide +kernel) (by decide +kernel) ?_
      wtm_at "d"
      refine ino rfl ?_
      wtm_at "d"
      refine inn rfl (ds_nil ?_)
      refine ds_one (ds_retD (de_cmp (dc_eqD (hu_of hr) (db_lst (lcf 3 (List.range ds.length) (fun i => .int (i : Int)) (fun _ => false) (fun i => .int (i : Int)) rfl Sc.nd (di_s (dis_rngN 3 B.range ?_)))))))
      wtm_at "d"
      refine ⟨by rw [List.length_range]; omega, fun y hy s H C cl fp => ?_, fun y hy h => (by cases h), ?_⟩
      · have hyl : y < ds.length := List.mem_range.mp hy
        have hat : atI ds (y : Int) = some ds[y] := atI_ix rfl (List.getElem?_eq_getElem hyl)
        refine dt_not (dt_val (de_callR ih hr (da_cons (de_ix ?_)) (Nat.le_refl _)))
        wtm_at "d"
        refine ⟨_, _, rfl, hat, da_cons (de_ix ?_)⟩
        wtm_at "d"
        refine ⟨_, _, rfl, hat, ?_⟩
        wtm_at "d"
        exact ⟨ds[y], rfl, hg _ (List.getElem_mem hyl), _, rfl, rfl⟩
      · rw [filt_no]
        wtm_at "d"
        exact hk
end
theorem gd_int {m : Nat} (i : Int) : gd m (.int i) := by
  cases m with
  | zero => exact .inl ⟨i, rfl⟩
  | succ m => exact .inl ⟨i, rfl⟩
theorem gd_bool {m : Nat} (i : Bool) : gd m (.bool i) := by
  cases m with
  | zero => exact .inr ⟨i, rfl⟩
  | succ m => exact .inr (.inl ⟨i, rfl⟩)
theorem gd_tI {m : Nat} {l : List Int} (h : l.length < 1000) : gd (m + 1) (tI l) := .inr (.inr ⟨_, .inr rfl, by rw [List.length_map]; exact h, fun x hx => by
  obtain ⟨i, _, rfl⟩ := List.mem_map.mp hx; exact gd_int i⟩)
theorem gd_tN {m : Nat} {l : List Nat} (h : l.length < 1000) : gd (m + 1) (tN l) := gd_tI (by rw [nI, List.length_map]; exact h)
theorem goRun_len (G : List (List Nat)) : ∀ (f : Nat) (left : List Nat), (goRun G f left).1.length ≤ f ∧ (goRun G f left).2.length ≤ left.length ∧ ∀ m ∈ (goRun G f left).1, m.length ≤ left.length
  | 0, left => ⟨Nat.le_refl _, Nat.le_refl _, fun m hm => by cases hm⟩
  | f + 1, left => by
    have e0 : goRun G (f + 1) left = if mendedOf G left = [] then ([], left) else (mendedOf G left :: (goRun G f (lessOf left (mendedOf G left))).1, (goRun G f (lessOf left (mendedOf G left))).2) := rfl
    rw [e0]
    by_cases e : mendedOf G left = []
    · rw [if_pos e]; exact ⟨Nat.zero_le _, Nat.le_refl _, fun m hm => by cases hm⟩
    · rw [if_neg e]
      obtain ⟨h1, h2, h3⟩ := goRun_len G f (lessOf left (mendedOf G left))
      have h4 : (lessOf left (mendedOf G left)).length ≤ left.length := List.length_filter_le _ _
      refine ⟨by show _ + 1 ≤ _; omega, Nat.le_trans h2 h4, fun m hm => ?_⟩
      rcases List.mem_cons.mp hm with rfl | hm
      · exact List.length_filter_le _ _
      · have := h3 m hm; omega
--LEVEL _law_same 4
section
variable {P : Program} {w : World} {K : PySem.W.Frag} {mg : Str → Option Value} {base : Heap}
abbrev F__law_same : FS := F_same 3
abbrev F__law_is_told : FS := fun ss k => ∃ (p : Int) (n : Nat) (rows ties : List (List Int)) (l : List Nat), ss = [.sh (bkD p n rows), .sh (tR ties), .sh (tN l), .sh (.tuple ((goBy (ties.map (spotsOf n)) l).1.map tN)), .sh (tN (goBy (ties.map (spotsOf n)) l).2)] ∧ BookOk p n rows ∧ TiesOk p n rows ties ∧ LotOk n l ∧ k (.bool true)
abbrev F__law_is_by_papers : FS := fun ss k => ∃ (p : Int) (n : Nat) (rows : List (List Int)) (l : List Nat), ss = [.sh (bkD p n rows), .sh (tN l), .sh (tN (backOf p n rows l))] ∧ BookOk p n rows ∧ LotOk n l ∧ k (.bool true)
theorem c__law_is_told (B : Bl mg) (Df : Def K mg "_law_is_told" 81 []) (C__law_same : Cal P w K mg base "_law_same" 4 [] F__law_same) (C_goings : Cal P w K mg base "goings" 10 [] F_goings) (C_left_by : Cal P w K mg base "left_by" 10 [] F_left_by) (C_is_mended_by : Cal P w K mg base "is_mended_by" 10 [] F_is_mended_by) :
    Cal P w K mg base "_law_is_told" 11 [] F__law_is_told := by
  have Sc : FnScope ["_law_base", "_law_ties", "_law_away", "_law_due", "_law_left", "_law_told"] ["_law_base", "_law_ties", "_law_away", "_law_due", "_law_left"] (defScope (tp 81)) := ⟨rfl, rfl, rfl, by decide +kernel, rfl, by decide +kernel, by decide +kernel⟩
  refine cal0 Df Sc (fun _ _ _ _ _ _ us hl => match us, hl with | [_, _, _, _, _], _ => rfl) (fun ss k h => ?_) fun f cdv A outer s H E hr ss k h => ?_
  · obtain ⟨_, _, _, _, _, rfl, _⟩ := h; rfl
  · obtain ⟨p, n, rows, ties, l, rfl, hb, ht, hl, hk⟩ := h
    have hn := hb.n2
    have hL := lot_len hl
    obtain ⟨g1, g2, g3⟩ := goRun_len (ties.map (spotsOf n)) l.length l
    refine ds_cons (ds_set 5 Sc.nd (dv_sh (de_lst (dl_list (dd_cons (de_callR C_goings hr ?_))))))
    wtm_at "d"
    refine de_callR C_left_by hr ?_
    wtm_at "d"
    refine de_callR C_is_mended_by hr ?_
    wtm_at "d"
    refine (de_callR C__law_same hr (da_cons (de_lst (dl_list (dd_cons (de_var 3 rfl (dd_cons (de_var 4 rfl (dd_cons (de_cmp (dc_eqD (hu_of hr) ?_)))))))))))
    wtm_at "d"
    refine ⟨shT _, rfl, ?_⟩
    rw [eqvT]
    wtm_at "d"
    have e : decide (nI (goBy (ties.map (spotsOf n)) l).2 = []) = decide ((goBy (ties.map (spotsOf n)) l).2 = []) := by simp only [nI_nil]
    rw [e]
    refine ⟨_, rfl, .inr (.inr ⟨_, .inl rfl, by show 3 < 1000; decide, fun x hx => ?_⟩), hk⟩
    have hx : x = .tuple ((goBy (ties.map (spotsOf n)) l).1.map tN) ∨ x = tN (goBy (ties.map (spotsOf n)) l).2 ∨ x = .bool (decide ((goBy (ties.map (spotsOf n)) l).2 = [])) := by simpa using hx
    rcases hx with rfl | rfl | rfl
    · refine .inr (.inr ⟨_, .inr rfl, by rw [List.length_map]; show (goRun _ _ _).1.length < _; omega, fun y hy => ?_⟩)
      obtain ⟨m, hm, rfl⟩ := List.mem_map.mp hy
      have := g3 m hm
      exact gd_tN (by omega)
    · exact gd_tN (by show (goRun _ _ _).2.length < _; omega)
    · exact gd_bool _
theorem told_sum {p : Int} {n : Nat} {rows : List (List Int)} {away : List Nat} {t : Nat} {x : List Int} (h : Told p n rows away t x) (ht : t < n) : SumOk p n x := ⟨h.ok, gt x t, gt_mem (by rw [h.ok.1]; exact ht), h.at_⟩
theorem take_back {p : Int} {n : Nat} {rows : List (List Int)} {away : List Nat} {i t : Nat} (h : away[i]? = some t) : (away.take (i + 1)).filter (knownB p n rows away) = (away.take i).filter (knownB p n rows away) ++ (if knownB p n rows away t = true then [t] else []) := by
  rw [List.take_succ, h, Option.toList_some, List.filter_append]
  congr 1
  cases e : knownB p n rows away t with
  | true => rw [List.filter_cons_of_pos (by simpa using e)]; rfl
  | false => rw [List.filter_cons_of_neg (by simp [e])]; rfl
theorem c__law_is_by_papers (B : Bl mg) (Df : Def K mg "_law_is_by_papers" 83 []) (C_loss_paper : Cal P w K mg base "loss_paper" 10 [] F_loss_paper) (C__law_is_sum : Cal P w K mg base "_law_is_sum" 3 [] F__law_is_sum) (C__law_is_told : Cal P w K mg base "_law_is_told" 11 [] F__law_is_told) :
    Cal P w K mg base "_law_is_by_papers" 12 [] F__law_is_by_papers := by
  have Sc : FnScope ["_law_base", "_law_away", "_law_back_here", "_law_paper", "_law_ties", "_law_k", "_law_due"] ["_law_base", "_law_away", "_law_back_here"] (defScope (tp 83)) := ⟨rfl, rfl, rfl, by decide +kernel, rfl, by decide +kernel, by decide +kernel⟩
  refine cal0 Df Sc (fun _ _ _ _ _ _ us hl => match us, hl with | [_, _, _], _ => rfl) (fun ss k h => ?_) fun f cdv A outer s H E hr ss k h => ?_
  · obtain ⟨_, _, _, _, rfl, _⟩ := h; rfl
  · obtain ⟨p, n, rows, away, rfl, hb, hl, hk⟩ := h
    have hn := hb.n2
    have hL := lot_len hl
    have ebk : backOf p n rows away = away.filter (knownB p n rows away) := rfl
    refine ds_cons (ds_set 3 Sc.nd (dv_sh (de_callR C_loss_paper hr ?_)))
    wtm_at "d"
    intro es hes hP
    have e0 : ((nI away).map PyData.int).length = away.length := by rw [nI, List.length_map, List.length_map]
    refine ds_cons (ds_if (dt_or (dt_not (dt_val (de_isiC "tuple" "tuple" true B.isinstance B.tuple (by decide +kernel) (by decide +kernel) ?_)))))
    wtm_at "d"
    refine ino rfl ?_
    wtm_at "d"
    refine inn (by rw [e0, hes]) (ds_nil ?_)
    refine ds_cons (ds_set 4 Sc.nd (dv_sh (de_tuple (dd_nil ⟨Nat.zero_le _, ?_⟩))))
    refine ds_cons (for1 5 (List.range away.length) (fun i => .int (i : Int)) (fun i δ => ∃ (xs : List (List Int)) (a : Option S), δ = [some (.sh (bkD p n rows)), some (.sh (tN away)), some (.sh (tN (backOf p n rows away))), some (.sh (.tuple es)), some (.sh (tR xs)), a, none] ∧ xs.length = ((away.take i).filter (knownB p n rows away)).length ∧ xs.length ≤ i ∧
      ∀ (j : Nat) (x : List Int) (b : Nat), xs[j]? = some x → ((away.take i).filter (knownB p n rows away))[j]? = some b → Told p n rows away b x) PassesOwn.never rfl Sc.nd (dis_rngN 5 B.range ?_))
    wtm_at "d"
    refine ⟨by rw [e0], ⟨[], none, rfl, by rw [List.take_zero]; rfl, Nat.le_refl _, fun j x b h _ => (by simp at h)⟩, fun i y δ' hi hI => ?_, fun δ' hI => ?_⟩
    · obtain ⟨xs, a, rfl, hx1, hx2, hx3⟩ := hI
      obtain ⟨hi1, hi2⟩ := List.getElem?_eq_some_iff.mp hi
      have hi1 : i < away.length := by simpa using hi1
      have hi2 : y = i := by simpa using hi2.symm
      subst hi2
      have hat : away[y]? = some away[y] := List.getElem?_eq_getElem hi1
      have hatD : atI ((nI away).map PyData.int) (y : Int) = some (.int (away[y] : Nat)) := atI_ix rfl (by rw [nI, List.map_map, List.getElem?_map, hat]; rfl)
      have hes2 : y < es.length := by omega
      have heD : atI es (y : Int) = some es[y] := atI_ix rfl (List.getElem?_eq_getElem hes2)
      have hPy := hP y away[y] es[y] hat (List.getElem?_eq_getElem hes2)
      have tk := take_back (p := p) (n := n) (rows := rows) hat
      refine ds_one (ds_if (dt_cmp (dc_in (de_ix ?_))))
      wtm_at "d"
      refine ⟨_, _, rfl, hatD, ?_⟩
      wtm_at "d"
      have em : decide (((away[y] : Nat) : Int) ∈ nI (backOf p n rows away)) = knownB p n rows away away[y] := by
        rw [Bool.eq_iff_iff, decide_eq_true_iff, mem_nI, ebk, List.mem_filter]
        exact ⟨fun h => h.2, fun h => ⟨List.getElem_mem hi1, h⟩⟩
      rw [em]
      refine isp (fun e => ?_) fun e => ?_
      · rw [if_pos e] at tk
        obtain ⟨x, hex, hT⟩ : ∃ x, es[y] = .tuple [.str "told", tI x] ∧ Told p n rows away away[y] x := hPy.resolve_right fun z => z (knownB_iff.mp e)
        have hS := told_sum hT (hl.2 _ (List.getElem_mem hi1))
        have hsp := hT.sp
        rw [hex] at heD
        refine ds_cons (ds_if (dt_w (dw_or (dt_not (dt_val (de_isiC "tuple" "tuple" true B.isinstance B.tuple (by decide +kernel) (by decide +kernel) (de_ix ?_)))))))
        wtm_at "d"
        refine ⟨_, _, rfl, heD, ?_⟩
        wtm_at "d"
        refine ino rfl (dw_or (dt_cmp (dc_neI (de_len B.len (db_of (de_ix ?_))))))
        wtm_at "d"
        refine ⟨_, _, rfl, heD, ?_⟩
        wtm_at "d"
        refine ino rfl (dw_or1 (dt_not (dt_val (de_callR C__law_is_sum hr (da_cons (de_var 0 rfl (da_cons (de_ix (db_of (de_ix ?_))))))))))
        wtm_at "d"
        refine ⟨_, _, rfl, heD, ?_⟩
        wtm_at "d"
        refine ino rfl (ds_nil ?_)
        refine ds_one (ds_set 4 Sc.nd (dv_sh (de_catT ?_)))
        wtm_at "d"
        refine ⟨_, _, rfl, heD, ?_⟩
        wtm_at "d"
        refine ⟨by rw [List.length_map]; show _ + 1 ≤ _; omega, xs ++ [x], some (.sh (.int y)), by rw [show tR (xs ++ [x]) = .tuple (xs.map tI ++ [tI x]) from by rw [tR, List.map_append]; rfl]; rfl, by rw [tk, List.length_append, List.length_append, hx1]; rfl, by rw [List.length_append]; show _ + 1 ≤ _; omega, fun j x' b h1 h2 => ?_⟩
        rw [tk] at h2
        by_cases hj : j < xs.length
        · rw [List.getElem?_append_left hj] at h1
          rw [List.getElem?_append_left (by omega)] at h2
          exact hx3 j x' b h1 h2
        · rw [List.getElem?_append_right (by omega)] at h1
          rw [List.getElem?_append_right (by omega)] at h2
          have hj0 : j - xs.length = 0 := by
            have := (List.getElem?_eq_some_iff.mp h1).1
            simp at this; omega
          rw [hj0] at h1
          rw [← hx1, hj0] at h2
          cases h1; cases h2
          exact hT
      · rw [if_neg (by rw [e]; decide), List.append_nil] at tk
        exact ds_nil ⟨xs, some (.sh (.int y)), rfl, by rw [tk]; exact hx1, by omega, by rw [tk]; exact hx3⟩
    · obtain ⟨xs, a, rfl, hx1, hx2, hx3⟩ := hI
      rw [List.length_range, List.take_length, ← ebk] at hx1 hx3
      rw [List.length_range] at hx2
      have hbm : ∀ b ∈ backOf p n rows away, b ∈ away := fun b hb => (List.mem_filter.mp hb).1
      have hTx : ∀ x ∈ xs, ∃ b ∈ away, Told p n rows away b x := fun x hx => by
        obtain ⟨j, hj, rfl⟩ := List.getElem_of_mem hx
        have hj2 : j < (backOf p n rows away).length := by omega
        exact ⟨_, hbm _ (List.getElem_mem hj2), hx3 j _ _ (List.getElem?_eq_getElem hj) (List.getElem?_eq_getElem hj2)⟩
      have hT1 : ∀ x ∈ xs, SumOk p n x := fun x hx => by
        obtain ⟨b, hb, h⟩ := hTx x hx
        exact told_sum h (hl.2 b hb)
      have hT2 : ∀ x ∈ xs, InSp p n rows x := fun x hx => by
        obtain ⟨b, hb, h⟩ := hTx x hx
        exact h.sp
      have hT : TiesOk p n rows xs := ⟨by omega, hT1, hT2⟩
      have go := papers_go (p := p) (n := n) (away := away) (back := backOf p n rows away) (xs := xs) hl hbm hx1 (fun i x b h1 h2 => ⟨(hx3 i x b h1 h2).ok, (hx3 i x b h1 h2).at_, (hx3 i x b h1 h2).other⟩) (hl.1.filter _)
      refine ds_mid (fun δ => δ = [some (.sh (bkD p n rows)), some (.sh (tN away)), some (.sh (tN (backOf p n rows away))), some (.sh (.tuple es)), some (.sh (tR xs)), a, some (.sh (.tuple ((goBy (xs.map (spotsOf n)) away).1.map tN)))]) (ds_set 6 Sc.nd (dv_sh (de_if (dt_cmp (dc_neD (hu_of hr) ?_))))) fun δ' hJ => ?_
      · wtm_at "d"
        refine ⟨shT _, rfl, ?_⟩
        rw [eqvT, go]
        by_cases e : backOf p n rows away = []
        · refine inn (nI_nil.mpr e) ?_
          wtm_at "d"
          rw [if_pos e]; rfl
        · refine iyn (fun z => e (nI_nil.mp z)) ?_
          wtm_at "d"
          rw [if_neg e]; rfl
      · subst hJ
        refine ds_one (ds_retD (de_callR C__law_is_told hr (da_cons (de_var 0 rfl (da_cons (de_var 4 rfl (da_cons (de_var 1 rfl (da_cons (de_var 6 rfl (da_cons (de_tup B.tuple (db_lst (lcf 5 away (fun i => .int (i : Int)) (fun x => decide (x ∉ backOf p n rows away)) (fun i => .int (i : Int)) rfl Sc.nd (di_s (dis_tup 5 ?_))))))))))))))))
        wtm_at "d"
        refine ⟨by rw [nI, List.map_map]; rfl, by omega, fun x _ s H C cl fp => ?_, fun x _ _ s H C cl fp => ?_, ?_⟩
        · refine dt_cmp (dc_notin ?_)
          wtm_at "d"
          simp only [mem_nI, decide_not]
        · wtm_at "d"
          rfl
        · have el : ((away.filter fun x => decide (x ∉ backOf p n rows away)).map fun (i : Nat) => PyData.int (i : Int)) = (nI (goBy (xs.map (spotsOf n)) away).2).map .int := by
            rw [go]
            show _ = (nI (lessOf away (backOf p n rows away))).map PyData.int
            rw [nI, List.map_map]; rfl
          rw [el]
          wtm_at "d"
          exact hk
end
section
variable {P : Program} {w : World} {K : PySem.W.Frag} {mg : Str → Option Value} {base : Heap}
abbrev F__law_pick : FS := fun ss k => ∃ L : Int, ss = [.fee, .sh (.int L)] ∧ 0 < L ∧ L < 1073741824 ∧ ∀ r : Int, 0 ≤ r → r < L → k (.int r)
abbrev F__law_any : FS := fun ss k => ∃ l : List Int, ss = [.fee, .sh (lI l)] ∧ l ≠ [] ∧ l.length < 1000 ∧ ∀ r ∈ l, k (.int r)
theorem c__law_pick (B : Bl mg) (Df : Def K mg "_law_pick" 62 []) :
    Cal P w K mg base "_law_pick" 1 [] F__law_pick := by
  have Sc : FnScope ["_law_feed_here", "_law_limit", "_law_figure", "_law_here", "_law_cells", "_law_cell", "_law_mixed_here"] ["_law_feed_here", "_law_limit"] (defScope (tp 62)) := ⟨rfl, rfl, rfl, by decide +kernel, rfl, by decide +kernel, by decide +kernel⟩
  refine cal0 Df Sc (fun _ _ _ _ _ _ us hl => match us, hl with | [_, _], _ => rfl) (fun ss k h => ?_) fun f cdv A outer s H E hr ss k h => ?_
  · obtain ⟨_, rfl, _⟩ := h; rfl
  · obtain ⟨L, rfl, h0, h1, hk⟩ := h
    have hu := hu1_of hr
    have md : ∀ a m : Int, 0 < m → 0 ≤ a % m ∧ a % m < m := fun a m hm => ⟨Int.emod_nonneg _ (by omega), Int.emod_lt_of_pos _ hm⟩
    refine ds_cons (ds_feedS 0 hu rfl (de_add (de_feedI 0 hu rfl fk_turn fun i => ⟨i, rfl, de_int ⟨1, rfl, _, rfl, ?_⟩⟩)) fp_turn)
    refine ds_cons (ds_if (dt_cmp (dc_gt (de_feedI 0 hu rfl fk_rest fun i => ⟨i, rfl, de_int ⟨0, rfl, isd (fun _ => ?_) fun _ => ds_nil ?_⟩⟩))))
    · refine ds_cons (ds_set 2 Sc.nd (dv_sh (de_mod (de_intc B.int (de_feedI 0 hu rfl fk_rest fun i => ⟨i, rfl, i, rfl, de_var 1 rfl ⟨L, rfl, h0, ?_⟩⟩)))))
      refine ds_cons (ds_feedS 0 hu rfl (de_fdiv (de_feedI 0 hu rfl fk_rest fun j => ⟨j, rfl, de_var 1 rfl ⟨L, rfl, ⟨h0, h1⟩, _, rfl, ?_⟩⟩)) fp_rest)
      refine ds_one (ds_retD (de_var 2 rfl ?_))
      exact hk _ (md i L h0).1 (md i L h0).2
    refine ds_cons (ds_par3 3 4 5 rfl Sc.nd (dv_sh (de_feedI 0 hu rfl fk_next fun nx => dv_sh (de_feedC 0 hu rfl fk_cells fun cells => dv_sh (de_int ?_)))))
    refine ds_cons (ds_feedS 0 hu rfl (de_add (de_var 3 rfl ⟨nx, rfl, de_int ⟨1, rfl, _, rfl, ?_⟩⟩)) fp_next)
    refine ds_mid (fun δ => ∃ c : Int, δ = [some .fee, some (.sh (.int L)), none, some (.sh (.int nx)), some (.sh (lI cells)), some (.sh (.int c)), none]) (ds_if (dt_cmp (dc_neD (hu_of hr) (db_of (de_var 4 rfl (db_lst (dl_list (dd_nil ⟨Nat.zero_le _, shL _, rfl, ?_⟩)))))))) fun δ' hJ => ?_
    · rw [eqvL]
      refine isn (fun e => ?_) fun e => ds_nil ⟨_, rfl⟩
      have hpos : 0 < cells.length := List.length_pos_iff.mpr e
      refine ds_one (ds_set 5 Sc.nd (dv_sh (de_ix (db_of (de_var 4 rfl ⟨_, .inl rfl, de_mod (de_intc B.int (de_var 3 rfl ⟨nx, rfl, nx, rfl, de_len B.len (db_of (de_var 4 rfl ⟨_, .inl rfl, _, rfl, ?_⟩))⟩))⟩)))))
      have hm := md nx (cells.length : Int) (by omega)
      obtain ⟨q, hq⟩ : ∃ q : Nat, nx % (cells.length : Int) = q := ⟨(nx % (cells.length : Int)).toNat, by omega⟩
      refine ⟨by rw [List.length_map]; omega, _, .int (gt cells q), rfl, ?_, ⟨_, rfl⟩⟩
      rw [List.length_map, hq]
      exact at_row (by omega)
    · obtain ⟨c, rfl⟩ := hJ
      have fin : ∀ δ : DS, δ = [some .fee, some (.sh (.int L)), none, some (.sh (.int nx)), some (.sh (lI cells)), some (.sh (.int c)), none] → True := fun _ _ => trivial
      refine ds_mid (fun δ => δ = [some .fee, some (.sh (.int L)), none, some (.sh (.int nx)), some (.sh (lI cells)), some (.sh (.int c)), none]) (ds_if (dt_and (dt_cmp (dc_lt (de_var 3 rfl ⟨nx, rfl, de_len B.len (db_of (de_var 4 rfl ⟨_, .inl rfl, _, rfl, isd (fun _ => dt_cmp (dc_ge (de_var 5 rfl ⟨c, rfl, de_pow (de_int ⟨10, rfl, de_int ⟨18, rfl, ⟨by decide, by decide, by decide⟩, _, rfl, isd (fun _ => ?_) fun _ => ds_nil rfl⟩⟩)⟩))) fun _ => ino rfl (ds_nil rfl)⟩))⟩))))) fun δ' hJ => ?_
      · refine ds_cons (ds_feedS 0 hu rfl (de_fdiv (de_var 5 rfl ⟨c, rfl, de_var 1 rfl ⟨L, rfl, ⟨h0, h1⟩, _, rfl, ?_⟩⟩)) fp_rest)
        refine ds_one (ds_retD (de_mod (de_intc B.int (de_var 5 rfl ⟨c, rfl, c, rfl, de_var 1 rfl ⟨L, rfl, h0, ?_⟩⟩))))
        exact hk _ (md c L h0).1 (md c L h0).2
      · subst hJ
        refine ds_cons (ds_set 6 Sc.nd (dv_sh (de_mod (de_intc B.int (de_add (de_add (de_mod (de_intc B.int ?_))))))))
        wtm_at "d"
        refine de_mul (de_int ⟨_, rfl, de_feedI 0 hu rfl fk_turn fun t => ⟨t, rfl, .inl ⟨by decide, by decide⟩, ?_⟩⟩)
        refine ⟨_, rfl, _, rfl, de_int ⟨_, rfl, _, rfl, _, rfl, de_int ⟨_, rfl, by decide, ?_⟩⟩⟩
        generalize hm1 : (c % 1000000513 + 143226 * t + 110758) % 2147483647 = m1
        have b1 : 0 ≤ m1 ∧ m1 < 2147483647 := by rw [← hm1]; exact md _ _ (by decide)
        refine ds_cons (ds_set 6 Sc.nd (dv_sh (de_mod (de_intc B.int (de_add (de_add (de_mul ?_)))))))
        wtm_at "d"
        refine ⟨.inl ⟨by omega, by omega⟩, _, rfl, de_mul (de_int ⟨_, rfl, de_feedI 0 hu rfl fk_turn fun t2 => ⟨t2, rfl, .inl ⟨by decide, by decide⟩, ?_⟩⟩)⟩
        refine ⟨_, rfl, _, rfl, de_int ⟨_, rfl, _, rfl, _, rfl, de_int ⟨_, rfl, by decide, ?_⟩⟩⟩
        generalize hm2 : (m1 * m1 + 7190556 * t2 + 110758) % 2147483629 = m2
        have b2 : 0 ≤ m2 ∧ m2 < 2147483629 := by rw [← hm2]; exact md _ _ (by decide)
        refine ds_one (ds_retD (de_mod (de_intc B.int (de_fdiv (de_mod (de_intc B.int (de_add (de_mul ?_))))))))
        wtm_at "d"
        refine ⟨.inl ⟨by omega, by omega⟩, _, rfl, de_mul ?_⟩
        wtm_at "d"
        refine ⟨.inl ⟨by decide, by decide⟩, ?_⟩
        wtm_at "d"
        refine ⟨⟨by decide, by decide⟩, ?_⟩
        wtm_at "d"
        exact hk _ (md _ L h0).1 (md _ L h0).2
theorem c__law_any (B : Bl mg) (Df : Def K mg "_law_any" 63 []) (C__law_pick : Cal P w K mg base "_law_pick" 1 [] F__law_pick) :
    Cal P w K mg base "_law_any" 2 [] F__law_any := by
  have Sc : FnScope ["_law_feed_here", "_law_some_here"] ["_law_feed_here", "_law_some_here"] (defScope (tp 63)) := ⟨rfl, rfl, rfl, by decide +kernel, rfl, by decide +kernel, by decide +kernel⟩
  refine cal0 Df Sc (fun _ _ _ _ _ _ us hl => match us, hl with | [_, _], _ => rfl) (fun ss k h => ?_) fun f cdv A outer s H E hr ss k h => ?_
  · obtain ⟨_, rfl, _⟩ := h; rfl
  · obtain ⟨l, rfl, hne, hl, hk⟩ := h
    have hpos : 0 < l.length := List.length_pos_iff.mpr hne
    refine ds_one (ds_retD (de_ix (db_of (de_var 1 rfl ⟨_, .inl rfl, ?_⟩))))
    refine de_callR C__law_pick hr (da_fee 0 rfl (da_cons (de_len B.len (db_of (de_var 1 rfl ⟨_, .inl rfl, da_nil ?_⟩)))))
    refine ⟨_, rfl, by rw [List.length_map]; omega, by rw [List.length_map]; omega, fun r r0 r1 => ?_⟩
    rw [List.length_map] at r1
    obtain ⟨q, rfl⟩ : ∃ q : Nat, r = q := ⟨r.toNat, by omega⟩
    exact ⟨_, _, rfl, at_row (show q < l.length by omega), hk _ (gt_mem (by omega))⟩
end
section
variable {X : Cx} {e a b c elt tg iter : Expr} {es : List Expr} {δ : DS} {pos : Pos} {scope : Scope}
/-- [elt for x in iter], each with a property -/
theorem lcP {α : Type} (j : Nat) (xs : List α) (enc : α → D) (Pr : D → Prop) {x : Str} {p : Pos} {k : List D → Prop} (hc : X.calm = true) (nd : X.N.Nodup) (it : DI X (.Name x p) iter false [j] δ fun us => us = ones (xs.map enc) ∧ xs.length < 100000 ∧ (∀ y ∈ xs, BE X scope elt (δ.set j (some (.sh (enc y)))) Pr) ∧ ∀ ys, ys.length = xs.length → (∀ y ∈ ys, Pr y) → k ys)
    (ok : BlkOk X.N X.env.scope scope [(x, j)] := by exact blkOk_by (by kernel_rfl)) (hi : X.N[j]? = some x := by rfl) (hl : LocB X scope x := by first | exact .inl fun _ _ => rfl | exact .inr ⟨fun _ _ => rfl, rfl⟩) (hs : ∀ x, foldedSetIterable iter X.env x = pure x := by intro _; rfl) : DL X (.ListComp elt [⟨.Name x p, iter, [], 0⟩] scope pos) δ k := by
  refine dl_lc hc nd ok rfl (by simp) (tg1 j nd hi hl) (it.imp fun us hk => ?_) hs
  obtain ⟨rfl, h1, h2, h3⟩ := hk
  refine turns_all Pr (by simpa [ones] using h1) (fun ds hds => ?_) fun ys hy hP => h3 ys (by simpa [ones] using hy) hP
  obtain ⟨d, hd, rfl⟩ := List.mem_map.mp hds
  obtain ⟨y, hy, rfl⟩ := List.mem_map.mp hd
  exact h2 y hy
theorem slcP {α : Type} (i0 : Nat) (j : Nat) (xs : List α) (enc : α → D) (Pr : D → Prop) {x : Str} {p : Pos} {E : DEnd} {y0 : Str} {py0 spos : Pos} (hc : X.calm = true) (nd : X.N.Nodup) (it : DI X (.Name x p) iter false [j] δ fun us => us = ones (xs.map enc) ∧ xs.length < 100000 ∧ (∀ y ∈ xs, BE X scope elt (δ.set j (some (.sh (enc y)))) Pr) ∧ ∀ ys, ys.length = xs.length → (∀ y ∈ ys, Pr y) → E.nx (δ.set i0 (some (.own ys))))
    (ok : BlkOk X.N X.env.scope scope [(x, j)] := by exact blkOk_by (by kernel_rfl)) (hi : X.N[j]? = some x := by rfl) (hl : LocB X scope x := by first | exact .inl fun _ _ => rfl | exact .inr ⟨fun _ _ => rfl, rfl⟩) (hs : ∀ x, foldedSetIterable iter X.env x = pure x := by intro _; rfl) (sw : swapsWith (.ListComp elt [⟨.Name x p, iter, [], 0⟩] scope pos) (some (.Name y0 py0)) spos.line X.env = pure true := by rfl) (hy0 : X.N[i0]? = some y0 := by rfl) (hyl0 : X.env.scope.names.lookup y0 = some .local := by rfl) : DSt X (.Assign [.Name y0 py0] (.ListComp elt [⟨.Name x p, iter, [], 0⟩] scope pos) spos) δ E := by
  refine ds_setLc i0 hc nd ok rfl (by simp) (tg1 j nd hi hl) sw (it.imp fun us hk => ?_) hy0 hyl0 hs
  obtain ⟨rfl, h1, h2, h3⟩ := hk
  refine turns_all Pr (by simpa [ones] using h1) (fun ds hds => ?_) fun ys hy hP => .inr (h3 ys (by simpa [ones] using hy) hP)
  obtain ⟨d, hd, rfl⟩ := List.mem_map.mp hds
  obtain ⟨y, hy, rfl⟩ := List.mem_map.mp hd
  exact h2 y hy
end
theorem ints_of {p : Int} : ∀ ys : List D, (∀ y ∈ ys, ∃ r : Int, y = .int r ∧ 0 ≤ r ∧ r < p) → ∃ l : List Int, ys = l.map .int ∧ ∀ x ∈ l, 0 ≤ x ∧ x < p
  | [], _ => ⟨[], rfl, fun x h => by cases h⟩
  | y :: ys, h => by
    obtain ⟨r, rfl, h1⟩ := h y List.mem_cons_self
    obtain ⟨l, rfl, h2⟩ := ints_of ys fun z hz => h z (List.mem_cons_of_mem _ hz)
    exact ⟨r :: l, rfl, fun x hx => by
      rcases List.mem_cons.mp hx with rfl | hx
      · exact h1
      · exact h2 x hx⟩
theorem rowok_set {p : Int} {n j : Nat} {r : List Int} {v : Int} (h : RowOk p n r) (h1 : 0 ≤ v ∧ v < p) : RowOk p n (r.set j v) := ⟨by rw [List.length_set]; exact h.1, fun x hx => by
  rcases List.mem_or_eq_of_mem_set hx with hx | rfl
  · exact h.2 x hx
  · exact h1⟩
theorem rowok_zero {p : Int} {n : Nat} (hp : PrmI p) : RowOk p n ((List.range n).map fun _ => (0 : Int)) := ⟨by simp, fun x hx => by
  have := hp.two
  obtain ⟨_, _, rfl⟩ := List.mem_map.mp hx; omega⟩
section
variable {P : Program} {w : World} {K : PySem.W.Frag} {mg : Str → Option Value} {base : Heap}
abbrev F__law_row : FS := fun ss k => ∃ (p : Int) (n : Nat), ss = [.fee, .sh (.int p), .sh (.int n)] ∧ PrmI p ∧ 1 ≤ n ∧ n ≤ 12 ∧ ∀ r, SumOk p n r → k (tI r)
abbrev F__law_lot : FS := fun ss k => ∃ (n : Nat), ss = [.fee, .sh (.int n)] ∧ n ≤ 12 ∧ ∀ l, LotOk n l → k (tN l)
theorem c__law_row (B : Bl mg) (Df : Def K mg "_law_row" 64 []) (C__law_pick : Cal P w K mg base "_law_pick" 1 [] F__law_pick) :
    Cal P w K mg base "_law_row" 2 [] F__law_row := by
  have Sc : FnScope ["_law_feed_here", "_law_prime", "_law_size", "_law_row_here", "_law_lap", "_law_k"] ["_law_feed_here", "_law_prime", "_law_size"] (defScope (tp 64)) := ⟨rfl, rfl, rfl, by decide +kernel, rfl, by decide +kernel, by decide +kernel⟩
  refine cal0 Df Sc (fun _ _ _ _ _ _ us hl => match us, hl with | [_, _, _], _ => rfl) (fun ss k h => ?_) fun f cdv A outer s H E hr ss k h => ?_
  · obtain ⟨_, _, rfl, _⟩ := h; rfl
  · obtain ⟨p, n, rfl, hp, hn1, hn, hk⟩ := h
    have h2 := hp.two
    refine ds_cons (ds_set 3 Sc.nd (dv_own (lc1 5 (List.range n) (fun i => .int (i : Int)) (fun _ => .int 0) rfl Sc.nd (di_s (dis_rngN 5 B.range ?_)))))
    wtm_at "d"
    refine ⟨by rw [List.length_range]; omega, fun y _ s H C cl fp => ?_, ?_⟩
    · wtm_at "d"
      rfl
    have e0 : (List.range n).map (fun _ => PyData.int 0) = ((List.range n).map fun _ => (0 : Int)).map .int := by rw [List.map_map]; rfl
    rw [e0]
    refine ds_mid (fun δ => ∃ r, δ = [some .fee, some (.sh (.int p)), some (.sh (.int n)), some (.own (r.map .int)), none, none] ∧ RowOk p n r) (ds_if (dt_cmp (dc_eqI (de_callR C__law_pick hr (da_fee 0 rfl (da_cons (de_int (da_nil ⟨3, rfl, by decide, by decide, fun q _ _ => ⟨q, rfl, de_int ⟨0, rfl, isd (fun _ => ?_) fun _ => ds_nil ⟨_, rfl, rowok_zero hp⟩⟩⟩⟩)))))))) fun δ' hJ => ?_
    · refine ds_one (ds_set 3 Sc.nd (dv_own (lcP 5 (List.range n) (fun i => .int (i : Int)) (fun y => ∃ r : Int, y = .int r ∧ 0 ≤ r ∧ r < p) rfl Sc.nd (di_s (dis_rngN 5 B.range ?_)))))
      wtm_at "d"
      refine ⟨by rw [List.length_range]; omega, fun y _ s H C cl fp => ?_, fun ys hl hys => ?_⟩
      · refine de_callR C__law_pick hr (da_fee 0 rfl ?_)
        wtm_at "d"
        exact fun r h1 h2 => ⟨r, rfl, h1, h2⟩
      · obtain ⟨l, rfl, hl2⟩ := ints_of ys hys
        exact ⟨l, rfl, by simpa using hl, hl2⟩
    obtain ⟨r, rfl, hr0⟩ := hJ
    refine ds_mid (fun δ => ∃ r a, δ = [some .fee, some (.sh (.int p)), some (.sh (.int n)), some (.own (r.map .int)), a, none] ∧ RowOk p n r) ?_ fun δ' hJ => ?_
    · refine ds_for (js := [4]) PassesOwn.never rfl (fg1 4 Sc.nd) (dis_rng1 4 B.range (de_callR C__law_pick hr (da_fee 0 rfl (da_cons (de_int (da_nil ⟨4, rfl, by decide, by decide, fun q q0 q1 => ⟨q, rfl, by omega, by omega, ?_⟩⟩))))))
      refine ⟨fun i δ => ∃ r a, δ = [some .fee, some (.sh (.int p)), some (.sh (.int n)), some (.own (r.map .int)), a, none] ∧ RowOk p n r, ⟨r, none, rfl, hr0⟩, fun i ds δ' hds hI => ?_, fun δ' hI => hI⟩
      obtain ⟨d, hd, rfl⟩ := ones_get hds
      obtain ⟨r, a, rfl, hr1⟩ := hI
      refine ds_one (ds_store 3 rfl (de_add (de_int ⟨1, rfl, de_callR C__law_pick hr (da_fee 0 rfl ?_)⟩)))
      wtm_at "d"
      intro v v0 v1
      refine ⟨v, rfl, de_callR C__law_pick hr (da_fee 0 rfl (da_cons (de_var 2 rfl (da_nil ⟨_, rfl, by omega, by omega, fun u u0 u1 => ?_⟩))))⟩
      obtain ⟨q, rfl⟩ : ∃ q : Nat, u = q := ⟨u.toNat, by omega⟩
      refine ⟨_, q, rfl, ixN_nat (by rw [List.length_map, hr1.1]; omega), r.set q (1 + v), _, by rw [List.map_set]; rfl, rowok_set hr1 ⟨by omega, by omega⟩⟩
    · obtain ⟨r, a, rfl, hr1⟩ := hJ
      refine ds_mid (fun δ => ∃ r, δ = [some .fee, some (.sh (.int p)), some (.sh (.int n)), some (.own (r.map .int)), a, none] ∧ SumOk p n r) (ds_if (dt_cmp (dc_eqD (hu_of hr) (db_lst (lcf 5 (List.range n) (fun i => .int (i : Int)) (fun i => decide (gt r i ≠ 0)) (fun i => .int (i : Int)) rfl Sc.nd (di_s (dis_rngN 5 B.range ?_))))))) fun δ' hJ => ?_
      · wtm_at "d"
        refine ⟨by rw [List.length_range]; omega, fun y hy s H C cl fp => ?_, fun y _ _ s H C cl fp => ?_, ?_⟩
        · refine dt_cmp (dc_neI ?_)
          wtm_at "d"
          refine ⟨_, _, rfl, hr1.at_ (List.mem_range.mp hy), ?_⟩
          wtm_at "d"
          simp
        · wtm_at "d"
          rfl
        · have el : ((List.range n).filter fun i => decide (gt r i ≠ 0)).map (fun (i : Nat) => PyData.int (i : Int)) = (nI (spotsOf n r)).map .int := by
            rw [spots_ne hr1, nI, List.map_map]; rfl
          rw [el]
          wtm_at "d"
          refine ⟨shL _, rfl, ?_⟩
          rw [eqvL]
          refine isd (fun e => ?_) fun e => ds_nil ⟨r, rfl, hr1, ?_⟩
          · refine ds_one (ds_store 3 rfl (de_int (de_callR C__law_pick hr (da_fee 0 rfl (da_cons (de_var 2 rfl (da_nil ⟨_, rfl, by omega, by omega, fun u u0 u1 => ?_⟩)))))))
            obtain ⟨q, rfl⟩ : ∃ q : Nat, u = q := ⟨u.toNat, by omega⟩
            refine ⟨_, q, rfl, ixN_nat (by rw [List.length_map, hr1.1]; omega), r.set q 1, by rw [List.map_set]; rfl, rowok_set hr1 ⟨by omega, by omega⟩, 1, ?_, by decide⟩
            exact List.mem_iff_getElem?.mpr ⟨q, by rw [List.getElem?_set_self (by rw [hr1.1]; omega)]⟩
          · obtain ⟨x, hx⟩ := List.exists_mem_of_ne_nil _ fun z => e (nI_nil.mpr z)
            have := List.mem_filter.mp hx
            have hxn := List.mem_range.mp this.1
            have hp0 : 0 < gt r x := by simpa using this.2
            exact ⟨gt r x, gt_mem (by rw [hr1.1]; exact hxn), by omega⟩
      · obtain ⟨r, rfl, hS⟩ := hJ
        refine ds_one (ds_retD (de_tup B.tuple (db_own 3 rfl ⟨_, .inl rfl, hk r hS⟩)))
end
section
variable {X : Cx} {e a b c elt tg iter : Expr} {es : List Expr} {δ : DS} {pos : Pos} {scope : Scope}
theorem DT.imp {k k' : Bool → Prop} (h : DT X e δ k) (hk : ∀ b, k b → k' b) : DT X e δ k' := fun σ H W ok R Q q => h σ H W ok R Q fun b W' H' hb le => q b W' H' (hk b hb) le
/-- an own list is shown from now on -/
theorem ds_freeze (i : Nat) {ds : List D} {sts : List Stmt} {E : DEnd} (hd : δ[i]? = some (some (.own ds))) (h : DSs X sts (δ.set i (some (.sh (.list ds)))) E) : DSs X sts δ E := fun W0 H0 G W H σ at_ Z z => by
  obtain ⟨v, g1, l, vs, g2, g3, g4, g5, g6⟩ := at_.r.at_ i _ hd
  subst g2
  have hb : W.B = W0.B := at_.le.b
  have hl0 : l ∉ W0.O := by rw [at_.hb, ← hb]; exact g4
  have le' := at_.le.show_ hl0
  have sub : Sub (hid W.O H) (hid (W.O.filter fun a => decide (a ≠ l)) H) := hid_less fun a ha => (List.mem_filter.mp ha).1
  have hil : i < δ.length := (List.getElem?_eq_some_iff.mp hd).1
  have key : ∀ (j : Nat) (s : S), (δ.set i (some (.sh (.list ds))))[j]? = some (some s) → (j = i ∧ s = .sh (.list ds)) ∨ (j ≠ i ∧ δ[j]? = some (some s)) := fun j s hj => by
    by_cases e : j = i
    · subst e
      rw [List.getElem?_set_self hil] at hj
      cases hj
      exact .inl ⟨rfl, rfl⟩
    · rw [List.getElem?_set_ne (fun z => e z.symm)] at hj
      exact .inr ⟨e, hj⟩
  refine h W0 H0 G _ H σ ⟨at_.hb, le', fun a o e => sub a o (at_.g a o e), ⟨by rw [List.length_set]; exact at_.r.len, fun j s hj => ?_, fun j j' a b v hjj h1 h2 h3 h4 => ?_⟩⟩ Z z
  · rcases key j s hj with ⟨rfl, rfl⟩ | ⟨hne, hj⟩
    · exact ⟨_, g1, .lst (hid_of (fun z => of_decide_eq_true (List.mem_filter.mp z).2 rfl) g5) (g6.mono sub)⟩
    · obtain ⟨v, f1, f2⟩ := at_.r.at_ j s hj
      refine ⟨v, f1, ?_⟩
      cases s with
      | sh d => exact Rp.mono sub f2
      | own ds' =>
        obtain ⟨l', vs', e1, e2, e3, e4, e5⟩ := f2
        refine ⟨l', vs', e1, List.mem_filter.mpr ⟨e2, decide_eq_true fun z => ?_⟩, e3, e4, e5.mono sub⟩
        subst z e1
        exact at_.r.sep i j _ _ _ (fun z => hne z.symm) hd hj g1 f1
      | tab kvs =>
        obtain ⟨a, ws, e1, e2, e3, e4⟩ := f2
        exact ⟨a, ws, e1, sub _ _ e2, e3, e4.mono sub⟩
      | fee => exact f2
  · rcases key j _ h1 with ⟨_, e⟩ | ⟨_, h1⟩
    · cases e
    · rcases key j' _ h2 with ⟨_, e⟩ | ⟨_, h2⟩
      · cases e
      · exact at_.r.sep j j' a b v hjj h1 h2 h3 h4
/-- [x for x in iter if cnd], any test: some of them -/
theorem lcS (j : Nat) (xs : List Nat) {x : Str} {p : Pos} {cnd : Expr} {k : List D → Prop} (hc : X.calm = true) (nd : X.N.Nodup) (it : DI X (.Name x p) iter false [j] δ fun us => us = ones (xs.map fun (i : Nat) => .int (i : Int)) ∧ xs.length < 100000 ∧ (∀ y ∈ xs, BT X scope [cnd] (δ.set j (some (.sh (.int (y : Int))))) fun _ => True) ∧ (∀ y ∈ xs, BE X scope elt (δ.set j (some (.sh (.int (y : Int))))) fun z => z = .int (y : Int)) ∧ ∀ l : List Nat, l.Sublist xs → k ((nI l).map .int))
    (ok : BlkOk X.N X.env.scope scope [(x, j)] := by exact blkOk_by (by kernel_rfl)) (hi : X.N[j]? = some x := by rfl) (hl : LocB X scope x := by first | exact .inl fun _ _ => rfl | exact .inr ⟨fun _ _ => rfl, rfl⟩) (hs : ∀ x, foldedSetIterable iter X.env x = pure x := by intro _; rfl) : DL X (.ListComp elt [⟨.Name x p, iter, [cnd], 0⟩] scope pos) δ k := by
  refine dl_lc hc nd ok rfl (by simp) (tg1 j nd hi hl) (it.imp fun us hk => ?_) hs
  obtain ⟨rfl, h1, h2, h3, h4⟩ := hk
  refine ⟨fun i acc => ∃ l : List Nat, l.Sublist (xs.take i) ∧ acc = (nI l).map .int, by simpa [ones] using h1, ⟨[], by simp, rfl⟩, fun i ds acc hi hI => ?_, fun acc hI => ?_⟩
  · obtain ⟨l, hl1, rfl⟩ := hI
    obtain ⟨d, hd, rfl⟩ := ones_get hi
    rw [List.getElem?_map] at hd
    cases hx : xs[i]? with
    | none => rw [hx] at hd; cases hd
    | some y =>
      rw [hx] at hd; cases hd
      have hy := List.mem_of_getElem? hx
      have tk : xs.take (i + 1) = xs.take i ++ [y] := by rw [List.take_succ, hx]; rfl
      intro s H C cl fp
      refine DT.imp (h2 y hy s H C cl fp) fun t _ => ?_
      cases t with
      | true =>
        rw [if_pos rfl]
        intro s H C cl fp
        refine DE.imp (h3 y hy s H C cl fp) fun z hz => ⟨l ++ [y], ?_, ?_⟩
        · rw [tk]; exact hl1.append (List.Sublist.refl _)
        · rw [hz, nI, nI, List.map_append, List.map_append]; rfl
      | false =>
        rw [if_neg (by decide)]
        exact ⟨l, by rw [tk]; exact hl1.trans (List.sublist_append_left _ _), rfl⟩
  · obtain ⟨l, hl1, rfl⟩ := hI
    refine h4 l (hl1.trans (List.take_sublist _ _))
end
section
variable {P : Program} {w : World} {K : PySem.W.Frag} {mg : Str → Option Value} {base : Heap}
abbrev F__law_one_by_one : FS := fun ss k => ∃ (G : List (List Nat)) (away : List Nat), ss = [.fee, .sh (.list (G.map lN)), .sh (tN away)] ∧ G.length ≤ 60 ∧ (∀ pl ∈ G, pl.length ≤ 12) ∧ away.Pairwise (· < ·) ∧ away.length ≤ 12 ∧ k (tN (goBy G away).2)
theorem c__law_lot (B : Bl mg) (Df : Def K mg "_law_lot" 67 []) (C__law_pick : Cal P w K mg base "_law_pick" 1 [] F__law_pick) :
    Cal P w K mg base "_law_lot" 2 [] F__law_lot := by
  have Sc : FnScope ["_law_feed_here", "_law_size", "_law_many", "_law_k"] ["_law_feed_here", "_law_size"] (defScope (tp 67)) := ⟨rfl, rfl, rfl, by decide +kernel, rfl, by decide +kernel, by decide +kernel⟩
  refine cal0 Df Sc (fun _ _ _ _ _ _ us hl => match us, hl with | [_, _], _ => rfl) (fun ss k h => ?_) fun f cdv A outer s H E hr ss k h => ?_
  · obtain ⟨_, rfl, _⟩ := h; rfl
  · obtain ⟨n, rfl, hn, hk⟩ := h
    refine ds_cons (ds_set 2 Sc.nd (dv_sh (de_add (de_int ⟨2, rfl, de_callR C__law_pick hr (da_fee 0 rfl (da_cons (de_int (da_nil ⟨3, rfl, by decide, by decide, fun q q0 q1 => ⟨q, rfl, ?_⟩⟩))))⟩))))
    refine ds_one (ds_retD (de_tup B.tuple (db_lst (lcS 3 (List.range n) rfl Sc.nd (di_s (dis_rngN 3 B.range ?_))))))
    wtm_at "d"
    refine ⟨by rw [List.length_range]; omega, fun y _ s H C cl fp => ?_, fun y _ s H C cl fp => ?_, fun l hl => ?_⟩
    · refine dt_cmp (dc_eqI (de_callR C__law_pick hr (da_fee 0 rfl (da_cons (de_var 2 rfl (da_nil ⟨2 + q, rfl, by omega, by omega, fun r _ _ => ⟨r, rfl, de_int ⟨0, rfl, trivial⟩⟩⟩))))))
    · wtm_at "d"
      rfl
    · refine ⟨_, .inl rfl, hk l ⟨List.pairwise_lt_range.sublist hl, fun x hx => List.mem_range.mp (hl.subset hx)⟩⟩
theorem c__law_one_by_one (B : Bl mg) (Df : Def K mg "_law_one_by_one" 80 []) (C__law_any : Cal P w K mg base "_law_any" 2 [] F__law_any) :
    Cal P w K mg base "_law_one_by_one" 3 [] F__law_one_by_one := by
  have Sc : FnScope ["_law_feed_here", "_law_groups", "_law_away", "_law_left", "_law_lap", "_law_alone", "_law_group", "_law_both", "_law_spot", "_law_k"] ["_law_feed_here", "_law_groups", "_law_away"] (defScope (tp 80)) := ⟨rfl, rfl, rfl, by decide +kernel, rfl, by decide +kernel, by decide +kernel⟩
  refine cal0 Df Sc (fun _ _ _ _ _ _ us hl => match us, hl with | [_, _, _], _ => rfl) (fun ss k h => ?_) fun f cdv A outer s H E hr ss k h => ?_
  · obtain ⟨_, _, rfl, _⟩ := h; rfl
  · obtain ⟨G, away, rfl, hG, hpl, ha, hal, hk⟩ := h
    refine ds_cons (ds_set 3 Sc.nd (dv_sh (de_lst (dl_of B.list ?_))))
    wtm_at "d"
    have e0 : ((nI away).map PyData.int).length = away.length := by rw [nI, List.length_map, List.length_map]
    refine (for1 4 (List.range away.length) (fun i => .int (i : Int)) (fun i δ => ∃ (left : List Nat) (a b c d e : Option S), δ = [some .fee, some (.sh (.list (G.map lN))), some (.sh (tN away)), some (.sh (lN left)), a, b, c, d, e, none] ∧ OneSt G away i left ∧ left.length ≤ 12) PassesOwn.never rfl Sc.nd (dis_rngN 4 B.range ?_))
    wtm_at "d"
    refine ⟨by rw [e0], ⟨away, none, none, none, none, none, rfl, one_start ha, hal⟩, fun i y δ' hi hI => ?_, fun δ' hI => ?_⟩
    · obtain ⟨left, a, b, c, d, e, rfl, hst, hll⟩ := hI
      refine ds_cons (ds_set 5 Sc.nd (dv_own (dl_list (dd_nil ⟨Nat.zero_le _, ?_⟩))))
      refine ds_mid (fun δ => ∃ c d, δ = [some .fee, some (.sh (.list (G.map lN))), some (.sh (tN away)), some (.sh (lN left)), some (.sh (.int y)), some (.own ((nI (aloneOf G left)).map .int)), c, d, e, none])
        (for1 6 G lN (fun j δ => ∃ c d, δ = [some .fee, some (.sh (.list (G.map lN))), some (.sh (tN away)), some (.sh (lN left)), some (.sh (.int y)), some (.own ((nI (aloneOf (G.take j) left)).map .int)), c, d, e, none]) PassesOwn.never rfl Sc.nd (dis_list 6 ?_)) fun δ' hJ => ?_
      · wtm_at "d"
        refine ⟨⟨c, d, rfl⟩, fun j pl δ' hj hI => ?_, fun δ' hI => ?_⟩
        · obtain ⟨c, d, rfl⟩ := hI
          have hplm := hpl pl (List.mem_of_getElem? hj)
          have hjl : j < G.length := (List.getElem?_eq_some_iff.mp hj).1
          have htk : aloneOf (G.take (j + 1)) left = aloneOf (G.take j) left ++ (if (onlyOf pl left).length = 1 then onlyOf pl left else []) := by
            unfold aloneOf
            rw [List.take_succ, hj, Option.toList_some, List.flatMap_append]; simp
          have hlen : (aloneOf (G.take j) left).length ≤ j := Nat.le_trans (alone_len _ _) (by rw [List.length_take]; omega)
          refine ds_cons (slcf 7 9 pl (fun i => .int (i : Int)) (fun x => decide (x ∈ left)) (fun i => .int (i : Int)) rfl Sc.nd (di_list 9 ?_))
          wtm_at "d"
          refine ⟨by rw [nI, List.map_map]; rfl, by omega, fun x _ s H C cl fp => ?_, fun x _ _ s H C cl fp => ?_, .inl ?_⟩
          · refine dt_cmp (dc_in ?_)
            wtm_at "d"
            simp only [mem_nI]
          · wtm_at "d"
            rfl
          · have el : ((pl.filter fun x => decide (x ∈ left)).map fun (i : Nat) => PyData.int (i : Int)) = (nI (onlyOf pl left)).map .int := by
              rw [nI, List.map_map]; rfl
            rw [el]
            have e1 : ((nI (onlyOf pl left)).map PyData.int).length = (onlyOf pl left).length := by rw [nI, List.length_map, List.length_map]
            refine ds_one (ds_if (dt_cmp (dc_eqI ?_)))
            wtm_at "d"
            rw [e1]
            refine isd (fun e => ?_) fun e => ?_
            · have e : (onlyOf pl left).length = 1 := by omega
              obtain ⟨t, ht⟩ : ∃ t, onlyOf pl left = [t] := by
                match onlyOf pl left, e with
                | [t], _ => exact ⟨t, rfl⟩
              rw [if_pos e] at htk
              refine ds_one (ds_append 5 rfl (de_ix ?_))
              wtm_at "d"
              rw [ht] at htk ⊢
              refine ⟨_, _, rfl, at_head, by rw [nI, List.length_map, List.length_map]; omega, some (.sh (lN pl)), some (.sh (lN [t])), ?_⟩
              rw [htk, nI_app, List.map_append]
              rfl
            · have e : ¬ (onlyOf pl left).length = 1 := fun z => e (by omega)
              rw [if_neg e, List.append_nil] at htk
              refine ds_nil ⟨some (.sh (lN pl)), some (.sh (lN (onlyOf pl left))), ?_⟩
              rw [htk]
              rfl
        · obtain ⟨c, d, rfl⟩ := hI
          rw [List.take_length]
          exact ⟨c, d, rfl⟩
      · obtain ⟨c, d, rfl⟩ := hJ
        refine ds_freeze 5 rfl ?_
        have hAl := alone_len G left
        refine ds_one (ds_if (dt_cmp (dc_neD (hu_of hr) ?_)))
        wtm_at "d"
        refine ⟨shL _, rfl, ?_⟩
        rw [eqvL]
        by_cases ee : aloneOf G left = []
        · exact inn (by rw [ee]; rfl) (ds_nil ⟨left, some (.sh (.int y)), _, c, d, e, rfl, one_stay hst ee, hll⟩)
        · refine iyn (fun z => ee (nI_nil.mp z)) (ds_cons (ds_set 8 Sc.nd (dv_sh (de_callR C__law_any hr (da_fee 0 rfl (da_cons (de_var 5 rfl (da_nil ⟨_, rfl, fun z => ee (nI_nil.mp z), by rw [nI, List.length_map]; omega, fun r hr' => ?_⟩))))))))
          obtain ⟨t, ht, rfl⟩ := List.mem_map.mp hr'
          refine ds_one (ds_set 3 Sc.nd (dv_sh (de_lst (lcf 9 left (fun i => .int (i : Int)) (fun x => decide (x ≠ t)) (fun i => .int (i : Int)) rfl Sc.nd (di_list 9 ?_)))))
          wtm_at "d"
          refine ⟨by rw [nI, List.map_map]; rfl, by omega, fun x _ s H C cl fp => ?_, fun x _ _ s H C cl fp => ?_, ?_⟩
          · refine dt_cmp (dc_neI ?_)
            wtm_at "d"
            simp [Int.ofNat_inj]
          · wtm_at "d"
            rfl
          · have el : ((left.filter fun x => decide (x ≠ t)).map fun (i : Nat) => PyData.int (i : Int)) = (nI (left.filter fun x => decide (x ≠ t))).map .int := by
              rw [nI, List.map_map]; rfl
            rw [el]
            exact ⟨left.filter fun x => decide (x ≠ t), some (.sh (.int y)), some (.sh (lN (aloneOf G left))), c, d, some (.sh (.int (t : Int))), rfl, one_go hst ht, Nat.le_trans (List.length_filter_le _ _) hll⟩
    · obtain ⟨left, a, b, c, d, e, rfl, hst, hll⟩ := hI
      rw [List.length_range] at hst
      refine ds_one (ds_retD ?_)
      wtm_at "d"
      rw [one_end ha hst]
      exact hk
end
theorem inSp_row {p : Int} {n : Nat} {rows : List (List Int)} {r : List Int} (h : r ∈ rows) : InSp p n rows r := fun w hw => hw r h
theorem inSp_zero {p : Int} {n : Nat} {rows : List (List Int)} : InSp p n rows ((List.range n).map fun _ => (0 : Int)) := fun w _ => by
  rw [dot_zero n fun i hi => by
    show ((List.range n).map fun _ => (0 : Int)).getD i 0 = 0
    rw [List.getD_eq_getElem?_getD, List.getElem?_map, List.getElem?_range hi]; rfl]
  exact ⟨0, by simp⟩
def mixR (p : Int) (n : Nat) (more row : List Int) (t : Int) : List Int := (List.range n).map fun k => (gt more k + t * gt row k) % p
theorem mix_ok {p : Int} {n : Nat} {more row : List Int} {t : Int} (hp : PrmI p) : RowOk p n (mixR p n more row t) := ⟨by unfold mixR; simp, fun x hx => by
  have := hp.two
  obtain ⟨_, _, rfl⟩ := List.mem_map.mp hx
  exact ⟨Int.emod_nonneg _ (by omega), Int.emod_lt_of_pos _ (by omega)⟩⟩
theorem mix_sp {p : Int} {n : Nat} {rows : List (List Int)} {more row : List Int} {t : Int} (h1 : InSp p n rows more) (h2 : InSp p n rows row) : InSp p n rows (mixR p n more row t) := fun w hw => by
  have e : p ∣ dot (gt (mixR p n more row t)) w n - dot (fun i => 1 * gt more i + t * gt row i) w n := dot_mod n fun i hi => by
    have : gt (mixR p n more row t) i = (gt more i + t * gt row i) % p := by
      show (mixR p n more row t).getD i 0 = _
      unfold mixR
      rw [List.getD_eq_getElem?_getD, List.getElem?_map, List.getElem?_range hi]; rfl
    rw [this, Int.one_mul]
    exact dvd_emod_sub p _
  refine dvd_of_sub e ?_
  rw [dot_lin]
  exact Int.dvd_add (Int.dvd_mul_of_dvd_right (h1 w hw)) (Int.dvd_mul_of_dvd_right (h2 w hw))
section
variable {P : Program} {w : World} {K : PySem.W.Frag} {mg : Str → Option Value} {base : Heap}
abbrev F__law_mixed : FS := fun ss k => ∃ (p : Int) (n : Nat) (rows : List (List Int)), ss = [.fee, .sh (bkD p n rows)] ∧ BookOk p n rows ∧ ∀ ties, TiesOk p n rows ties → ties.length ≤ 12 → k (tR ties)
theorem c__law_mixed (B : Bl mg) (Df : Def K mg "_law_mixed" 73 []) (C__law_pick : Cal P w K mg base "_law_pick" 1 [] F__law_pick) :
    Cal P w K mg base "_law_mixed" 2 [] F__law_mixed := by
  have Sc : FnScope ["_law_feed_here", "_law_base", "_law_prime", "_law_size", "_law_rows", "_law_found", "_law_lap", "_law_more", "_law_row_here", "_law_times", "_law_k", "_law_x"] ["_law_feed_here", "_law_base"] (defScope (tp 73)) := ⟨rfl, rfl, rfl, by decide +kernel, rfl, by decide +kernel, by decide +kernel⟩
  refine cal0 Df Sc (fun _ _ _ _ _ _ us hl => match us, hl with | [_, _], _ => rfl) (fun ss k h => ?_) fun f cdv A outer s H E hr ss k h => ?_
  · obtain ⟨_, _, _, rfl, _⟩ := h; rfl
  · obtain ⟨p, n, rows, rfl, hb, hk⟩ := h
    have hn := hb.n2
    have hp := hb.prm
    have h2 := hp.two
    have hfew := hb.few
    have hrow : ∀ r ∈ rows, RowOk p n r := fun r hr => (hb.sum r hr).1
    refine ds_cons (ds_unp3 2 3 4 rfl Sc.nd (de_var 1 rfl ⟨_, _, _, rfl, ?_⟩))
    refine ds_mid (fun δ => ∃ ties, δ = [some .fee, some (.sh (bkD p n rows)), some (.sh (.int p)), some (.sh (.int n)), some (.sh (tR rows)), some (.own (ties.map tI)), none, none, none, none, none, none] ∧ TiesOk p n rows ties ∧ ties.length ≤ 8) (ds_set 5 Sc.nd (dv_own (dl_if (dt_cmp (dc_gt (de_callR C__law_pick hr (da_fee 0 rfl (da_cons (de_int (da_nil ⟨3, rfl, by decide, by decide, fun q q0 q1 => ⟨q, rfl, de_int ⟨0, rfl, isd (fun _ => dl_of B.list ?_) fun _ => dl_list (dd_nil ⟨Nat.zero_le _, ?_⟩)⟩⟩⟩)))))))))) fun δ' hJ => ?_
    · wtm_at "d"
      exact ⟨⟨by omega, hb.sum, fun x hx => inSp_row hx⟩, hfew⟩
    · exact ⟨[], rfl, ⟨Nat.zero_le _, fun x hx => (nomatch hx), fun x hx => (nomatch hx)⟩, Nat.zero_le _⟩
    obtain ⟨ties0, rfl, hT0, hl0⟩ := hJ
    refine ds_mid (fun δ => ∃ ties a b c d, δ = [some .fee, some (.sh (bkD p n rows)), some (.sh (.int p)), some (.sh (.int n)), some (.sh (tR rows)), some (.own (ties.map tI)), a, b, c, d, none, none] ∧ TiesOk p n rows ties ∧ ties.length ≤ 12) (ds_for (js := [6]) PassesOwn.never rfl (fg1 6 Sc.nd) (dis_rng1 6 B.range (de_callR C__law_pick hr (da_fee 0 rfl (da_cons (de_int (da_nil ⟨4, rfl, by decide, by decide, fun q q0 q1 => ⟨q, rfl, by omega, by omega, ?_⟩⟩))))))) fun δ' hJ => ?_
    · refine ⟨fun i δ => ∃ ties a b c d, δ = [some .fee, some (.sh (bkD p n rows)), some (.sh (.int p)), some (.sh (.int n)), some (.sh (tR rows)), some (.own (ties.map tI)), a, b, c, d, none, none] ∧ TiesOk p n rows ties ∧ ties.length ≤ 8 + i, ⟨ties0, none, none, none, none, rfl, hT0, hl0⟩, fun i ds δ' hds hI => ?_, fun δ' hI => ?_⟩
      · have hiq : i < q.toNat := by
          have := (List.getElem?_eq_some_iff.mp hds).1
          simpa [ones, rngD] using this
        obtain ⟨dd, hd, rfl⟩ := ones_get hds
        obtain ⟨ties, a, b, c, d, rfl, hT, hl⟩ := hI
        refine ds_cons (ds_set 7 Sc.nd (dv_sh (de_lst (lc1 10 (List.range n) (fun i => .int (i : Int)) (fun _ => .int 0) rfl Sc.nd (di_s (dis_rngN 10 B.range ?_))))))
        wtm_at "d"
        refine ⟨by rw [List.length_range]; omega, fun y _ s H C cl fp => ?_, ?_⟩
        · wtm_at "d"
          rfl
        have e0 : (List.range n).map (fun _ => PyData.int 0) = ((List.range n).map fun _ => (0 : Int)).map .int := by rw [List.map_map]; rfl
        rw [e0]
        refine ds_mid (fun δ => ∃ more c d, δ = [some .fee, some (.sh (bkD p n rows)), some (.sh (.int p)), some (.sh (.int n)), some (.sh (tR rows)), some (.own (ties.map tI)), some (.sh dd), some (.sh (lI more)), c, d, none, none] ∧ RowOk p n more ∧ InSp p n rows more)
          (for1 8 rows tI (fun j δ => ∃ more c d, δ = [some .fee, some (.sh (bkD p n rows)), some (.sh (.int p)), some (.sh (.int n)), some (.sh (tR rows)), some (.own (ties.map tI)), some (.sh dd), some (.sh (lI more)), c, d, none, none] ∧ RowOk p n more ∧ InSp p n rows more) PassesOwn.never rfl Sc.nd (dis_tup 8 ?_)) fun δ' hJ => ?_
        · wtm_at "d"
          refine ⟨⟨_, c, d, rfl, rowok_zero hp, inSp_zero⟩, fun j r δ' hj hI => ?_, fun δ' hI => hI⟩
          obtain ⟨more, c, d, rfl, hm, hms⟩ := hI
          have hrm := List.mem_of_getElem? hj
          have hro := hrow r hrm
          refine ds_cons (ds_set 9 Sc.nd (dv_sh (de_callR C__law_pick hr (da_fee 0 rfl (da_cons (de_var 2 rfl (da_nil ⟨p, rfl, by omega, by omega, fun t t0 t1 => ?_⟩)))))))
          refine ds_one (ds_set 7 Sc.nd (dv_sh (de_lst (lc1 10 (List.range n) (fun i => .int (i : Int)) (fun k => .int ((gt more k + t * gt r k) % p)) rfl Sc.nd (di_s (dis_rngN 10 B.range ?_))))))
          wtm_at "d"
          refine ⟨by rw [List.length_range]; omega, fun y hy s H C cl fp => ?_, ?_⟩
          · have hyn := List.mem_range.mp hy
            refine de_mod (de_intc B.int (de_add (de_ix ?_)))
            wtm_at "d"
            refine ⟨_, _, rfl, hm.at_ hyn, ?_⟩
            wtm_at "d"
            refine de_mul ?_
            wtm_at "d"
            refine ⟨_, _, rfl, hro.at_ hyn, ?_⟩
            wtm_at "d"
            refine ⟨.inl ⟨by omega, by omega⟩, ?_⟩
            wtm_at "d"
            rfl
          · have el : (List.range n).map (fun k => PyData.int ((gt more k + t * gt r k) % p)) = (mixR p n more r t).map .int := by unfold mixR; rw [List.map_map]; rfl
            rw [el]
            exact ⟨mixR p n more r t, some (.sh (tI r)), some (.sh (.int t)), rfl, mix_ok hp, mix_sp hms (inSp_row hrm)⟩
        · obtain ⟨more, c, d, rfl, hm, hms⟩ := hJ
          refine ds_one (ds_if (dt_cmp (dc_neD (hu_of hr) (db_lst (lcf 11 more .int (fun i => decide (i ≠ 0)) .int rfl Sc.nd (di_list 11 ?_))))))
          have hml := hm.1
          wtm_at "d"
          refine ⟨fun y hy s H C cl fp => ?_, fun y hy _ s H C cl fp => ?_, ?_⟩
          · refine dt_cmp (dc_neI ?_)
            wtm_at "d"
            simp
          · wtm_at "d"
            rfl
          · wtm_at "d"
            refine ⟨shL _, rfl, ?_⟩
            rw [eqvL]
            refine isn (fun e => ?_) fun e => ds_nil ⟨ties, some (.sh dd), some (.sh (lI more)), c, d, rfl, hT, by omega⟩
            obtain ⟨x, hx⟩ := List.exists_mem_of_ne_nil _ e
            have hx2 := List.mem_filter.mp hx
            have hS : SumOk p n more := ⟨hm, x, hx2.1, by simpa using hx2.2⟩
            refine ds_one (ds_append 5 rfl (de_tup B.tuple ?_))
            wtm_at "d"
            refine ⟨by rw [List.length_map]; omega, ties ++ [more], some (.sh dd), some (.sh (lI more)), c, d, by rw [List.map_append]; rfl, ⟨by rw [List.length_append]; show _ + 1 ≤ _; omega, fun z hz => ?_, fun z hz => ?_⟩, by rw [List.length_append]; show _ + 1 ≤ _; omega⟩
            · rcases List.mem_append.mp hz with hz | hz
              · exact hT.sum z hz
              · rw [List.mem_singleton.mp hz]; exact hS
            · rcases List.mem_append.mp hz with hz | hz
              · exact hT.sp z hz
              · rw [List.mem_singleton.mp hz]; exact hms
      · obtain ⟨ties, a, b, c, d, rfl, hT, hl⟩ := hI
        have : (ones (rngD 0 1 q.toNat)).length = q.toNat := by simp [ones, rngD]
        rw [this] at hl
        exact ⟨ties, a, b, c, d, rfl, hT, by omega⟩
    · obtain ⟨ties, a, b, c, d, rfl, hT, hl⟩ := hJ
      exact ds_one (ds_retD (de_tup B.tuple (db_own 5 rfl ⟨_, .inl rfl, hk ties hT hl⟩)))
end
theorem rg3 {n : Nat} (hn : n ≤ 12) {s : Int} (h1 : 2 ≤ s) (h2 : s ≤ 4) : ∃ t : Nat, RgC 0 (n : Int) s t ∧ t ≤ 12 ∧ ∀ i < t, (i : Int) * s < (n : Int) := by
  have key : ∀ m ∈ List.range 13, ∀ c ∈ [(2 : Int), 3, 4], Builtin.Range.small 0 ((m : Nat) : Int) c = true ∧ 0 ≤ Builtin.Range.rangeSize 0 ((m : Nat) : Int) c ∧ (Builtin.Range.rangeSize 0 ((m : Nat) : Int) c).toNat ≤ 12 ∧ ∀ i ∈ List.range (Builtin.Range.rangeSize 0 ((m : Nat) : Int) c).toNat, ((i : Nat) : Int) * c < (m : Int) := by decide +kernel
  have hs : s ∈ [(2 : Int), 3, 4] := by
    have : s = 2 ∨ s = 3 ∨ s = 4 := by omega
    rcases this with rfl | rfl | rfl <;> simp
  obtain ⟨k1, k2, k3, k4⟩ := key n (List.mem_range.mpr (by omega)) s hs
  exact ⟨_, ⟨by omega, by omega, k1, by omega⟩, k3, fun i hi => k4 i (List.mem_range.mpr hi)⟩
section
variable {P : Program} {w : World} {K : PySem.W.Frag} {mg : Str → Option Value} {base : Heap}
abbrev F__law_some : FS := fun ss k => ∃ (p : Int) (n m : Nat), ss = [.fee, .sh (.int p), .sh (.int n), .sh (.int m)] ∧ PrmI p ∧ 1 ≤ n ∧ n ≤ 12 ∧ m ≤ 8 ∧ ∀ rows, rows.length ≤ m → (∀ r ∈ rows, SumOk p n r) → k (tR rows)
theorem rows_of {p : Int} {n : Nat} : ∀ ys : List D, (∀ y ∈ ys, ∃ r, y = tI r ∧ SumOk p n r) → ∃ rows : List (List Int), ys = rows.map tI ∧ ∀ r ∈ rows, SumOk p n r
  | [], _ => ⟨[], rfl, fun x h => by cases h⟩
  | y :: ys, h => by
    obtain ⟨r, rfl, h1⟩ := h y List.mem_cons_self
    obtain ⟨l, rfl, h2⟩ := rows_of ys fun z hz => h z (List.mem_cons_of_mem _ hz)
    exact ⟨r :: l, rfl, fun x hx => by
      rcases List.mem_cons.mp hx with rfl | hx
      · exact h1
      · exact h2 x hx⟩
theorem twice_ok {p : Int} {n : Nat} {r : List Int} (hp : PrmI p) (h2 : 2 < p) (h : SumOk p n r) : SumOk p n (r.map fun x => 2 * x % p) := by
  refine ⟨⟨by rw [List.length_map]; exact h.1.1, fun x hx => ?_⟩, ?_⟩
  · obtain ⟨y, _, rfl⟩ := List.mem_map.mp hx
    exact ⟨Int.emod_nonneg _ (by omega), Int.emod_lt_of_pos _ (by omega)⟩
  · obtain ⟨x, hx, h0⟩ := h.2
    refine ⟨2 * x % p, List.mem_map_of_mem hx, fun z => ?_⟩
    have hb := h.1.2 x hx
    have := prm_mul hp (Int.dvd_of_emod_eq_zero z)
    rcases this with d | d
    · have := Int.le_of_dvd (by decide) d; omega
    · exact h0 (small_zero d hb.1 hb.2)
theorem c__law_some (B : Bl mg) (Df : Def K mg "_law_some" 65 []) (C__law_pick : Cal P w K mg base "_law_pick" 1 [] F__law_pick) (C__law_row : Cal P w K mg base "_law_row" 2 [] F__law_row) :
    Cal P w K mg base "_law_some" 3 [] F__law_some := by
  have Sc : FnScope ["_law_feed_here", "_law_prime", "_law_size", "_law_most", "_law_rows", "_law_step", "_law_first", "_law_row_here", "_law_k", "_law_x"] ["_law_feed_here", "_law_prime", "_law_size", "_law_most"] (defScope (tp 65)) := ⟨rfl, rfl, rfl, by decide +kernel, rfl, by decide +kernel, by decide +kernel⟩
  refine cal0 Df Sc (fun _ _ _ _ _ _ us hl => match us, hl with | [_, _, _, _], _ => rfl) (fun ss k h => ?_) fun f cdv A outer s H E hr ss k h => ?_
  · obtain ⟨_, _, _, rfl, _⟩ := h; rfl
  · obtain ⟨p, n, m, rfl, hp, hn1, hn, hm, hk⟩ := h
    have h2 := hp.two
    -- the rows drawn
    refine ds_mid (fun δ => ∃ (rows : List (List Int)), δ = [some .fee, some (.sh (.int p)), some (.sh (.int n)), some (.sh (.int m)), some (.own (rows.map tI)), none, none, none, none, none] ∧ rows.length ≤ 12 ∧ ∀ r ∈ rows, SumOk p n r)
      (ds_setLc 4 (js := [8]) (own := [("_law_k", 8)]) rfl Sc.nd (blkOk_by (by kernel_rfl)) rfl (by decide) (tg1 8 Sc.nd) rfl (di_s (dis_rng1 8 B.range (de_callR C__law_pick hr (da_fee 0 rfl (da_cons (de_add (de_var 3 rfl ⟨m, rfl, de_int ⟨1, rfl, da_nil ⟨_, rfl, by omega, by omega, fun q q0 q1 => ⟨q, rfl, by omega, by omega, ?_⟩⟩⟩⟩)))))))) fun δ' hJ => ?_
    · have el : (ones (rngD 0 1 q.toNat)).length = q.toNat := by simp [ones, rngD]
      refine turns_all (fun y => ∃ r, y = tI r ∧ SumOk p n r) (by rw [el]; omega) (fun ds hds s H C cl fp => ?_) fun ys hl hys => .inr ?_
      · obtain ⟨d, _, rfl⟩ := List.mem_map.mp hds
        refine de_callR C__law_row hr (da_fee 0 rfl (da_cons (de_var 1 rfl (da_cons (de_var 2 rfl (da_nil ⟨p, n, rfl, hp, hn1, hn, fun r hr => ⟨r, rfl, hr⟩⟩))))))
      · obtain ⟨rows, rfl, hR⟩ := rows_of ys hys
        exact ⟨rows, rfl, by rw [List.length_map, el] at hl; omega, hR⟩
    obtain ⟨rows, rfl, hl, hR⟩ := hJ
    -- or bands
    refine ds_mid (fun δ => ∃ (rows : List (List Int)) (a b c e : Option S), δ = [some .fee, some (.sh (.int p)), some (.sh (.int n)), some (.sh (.int m)), some (.own (rows.map tI)), a, b, c, e, none] ∧ rows.length ≤ 12 ∧ ∀ r ∈ rows, SumOk p n r) (ds_if (dt_cmp (dc_eqI (de_callR C__law_pick hr (da_fee 0 rfl (da_cons (de_int (da_nil ⟨3, rfl, by decide, by decide, fun q _ _ => ⟨q, rfl, de_int ⟨0, rfl, isd (fun _ => ?_) fun _ => ds_nil ⟨rows, none, none, none, none, rfl, hl, hR⟩⟩⟩⟩)))))))) fun δ' hJ => ?_
    · refine ds_cons (ds_par 5 4 rfl Sc.nd (dv_sh (de_add (de_int ⟨2, rfl, de_callR C__law_pick hr (da_fee 0 rfl (da_cons (de_int (da_nil ⟨3, rfl, by decide, by decide, fun q q0 q1 => ⟨q, rfl, dv_own (dl_list (dd_nil ⟨Nat.zero_le _, ?_⟩))⟩⟩))))⟩))))
      obtain ⟨t, hrg, ht, hti⟩ := rg3 hn (s := 2 + q) (by omega) (by omega)
      refine ds_one (ds_for (js := [6]) PassesOwn.never rfl (fg1 6 Sc.nd) (dis_rng3 6 B.range (de_int ⟨0, rfl, de_var 2 rfl ⟨n, rfl, de_var 5 rfl ⟨2 + q, t, rfl, hrg, ?_⟩⟩⟩)))
      refine ⟨fun i δ => ∃ (rows : List (List Int)) (b c e : Option S), δ = [some .fee, some (.sh (.int p)), some (.sh (.int n)), some (.sh (.int m)), some (.own (rows.map tI)), some (.sh (.int (2 + q))), b, c, e, none] ∧ rows.length ≤ i ∧ ∀ r ∈ rows, SumOk p n r, ⟨[], none, none, none, rfl, Nat.le_refl _, fun r hr => (nomatch hr)⟩, fun i ds δ' hds hI => ?_, fun δ' hI => ?_⟩
      · obtain ⟨d, hd, rfl⟩ := ones_get hds
        obtain ⟨hit, rfl⟩ := rngD_get hd
        obtain ⟨rows, b, c, ek, rfl, hl, hR⟩ := hI
        have hin := hti i hit
        have hi0 : 0 ≤ (i : Int) * (2 + q) := Int.mul_nonneg (by omega) (by omega)
        obtain ⟨f0, hf0⟩ : ∃ f0 : Nat, (0 : Int) + (i : Int) * (2 + q) = f0 := ⟨((0 : Int) + (i : Int) * (2 + q)).toNat, by omega⟩
        have hfn : f0 < n := by omega
        have hit12 : i < 12 := by omega
        rw [hf0]
        clear hf0 hin hi0
        refine ds_cons (slc1 7 8 (List.range n) (fun i => .int (i : Int)) (fun _ => .int 0) rfl Sc.nd (di_s (dis_rngN 8 B.range ?_)))
        wtm_at "d"
        refine ⟨by rw [List.length_range]; omega, fun y _ s H C cl fp => ?_, .inr ?_⟩
        · wtm_at "d"
          rfl
        have e0 : (List.range n).map (fun _ => PyData.int 0) = ((List.range n).map fun _ => (0 : Int)).map .int := by rw [List.map_map]; rfl
        rw [e0]
        refine ds_mid (fun δ => ∃ (r : List Int) (c : Option S), δ = [some .fee, some (.sh (.int p)), some (.sh (.int n)), some (.sh (.int m)), some (.own (rows.map tI)), some (.sh (.int (2 + q))), some (.sh (.int f0)), some (.own (r.map .int)), c, none] ∧ RowOk p n r ∧ 0 < gt r f0)
          (ds_for (js := [8]) PassesOwn.never rfl (fg1 8 Sc.nd) (dis_rng2 8 B.range (de_var 6 rfl ⟨f0, rfl, de_min rfl B.min (de_var 2 rfl ⟨n, rfl, de_add (de_var 6 rfl ⟨f0, rfl, de_var 5 rfl ⟨2 + q, rfl, _, rfl, _, rfl, ?_⟩⟩)⟩)⟩))) fun δ' hJ => ?_
        · have hup : ∃ up : Nat, (if (f0 : Int) + (2 + q) < (n : Int) then (f0 : Int) + (2 + q) else (n : Int)) = up ∧ f0 < up ∧ up ≤ n := by
            split
            · exact ⟨((f0 : Int) + (2 + q)).toNat, by omega, by omega, by omega⟩
            · exact ⟨n, rfl, hfn, Nat.le_refl _⟩
          obtain ⟨up, hue, hu1, hu2⟩ := hup
          rw [hue]
          have hcnt : ((up : Int) - (f0 : Int)).toNat = up - f0 := by omega
          rw [hcnt]
          refine ⟨⟨by omega, by omega, by omega, by omega⟩, fun j δ => ∃ (r : List Int) (c : Option S), δ = [some .fee, some (.sh (.int p)), some (.sh (.int n)), some (.sh (.int m)), some (.own (rows.map tI)), some (.sh (.int (2 + q))), some (.sh (.int f0)), some (.own (r.map .int)), c, none] ∧ RowOk p n r ∧ (0 < j → 0 < gt r f0), ⟨_, ek, rfl, rowok_zero hp, fun h => by omega⟩, fun j ds δ' hds hI => ?_, fun δ' hI => ?_⟩
          · obtain ⟨d, hd, rfl⟩ := ones_get hds
            obtain ⟨hju, rfl⟩ := rngD_get hd
            obtain ⟨r, c, rfl, hr1, hr2⟩ := hI
            refine ds_one (ds_store 7 rfl (de_add (de_int ⟨1, rfl, de_callR C__law_pick hr (da_fee 0 rfl (da_cons (de_sub (de_var 1 rfl ⟨p, rfl, de_int ⟨1, rfl, da_nil ⟨_, rfl, by omega, by omega, fun v v0 v1 => ⟨v, rfl, de_var 8 rfl ⟨_, f0 + j, rfl, ?_, r.set (f0 + j) (1 + v), some (.sh (.int ((f0 : Int) + (j : Int) * 1))), by rw [List.map_set]; rfl, rowok_set hr1 ⟨by omega, by omega⟩, fun _ => ?_⟩⟩⟩⟩⟩))))⟩)))
            · have e : (f0 : Int) + (j : Int) * 1 = ((f0 + j : Nat) : Int) := by omega
              rw [e]
              exact ixN_nat (by rw [List.length_map, hr1.1]; omega)
            · rw [gt_set (by rw [hr1.1]; omega)]
              split
              · omega
              · exact hr2 (by omega)
          · obtain ⟨r, c, rfl, hr1, hr2⟩ := hI
            have : (ones (rngD (f0 : Int) 1 (up - f0))).length = up - f0 := by simp [ones, rngD]
            rw [this] at hr2
            exact ⟨r, c, rfl, hr1, hr2 (by omega)⟩
        · obtain ⟨r, c, rfl, hr1, hr2⟩ := hJ
          have hS : SumOk p n r := ⟨hr1, gt r f0, gt_mem (by rw [hr1.1]; exact hfn), by omega⟩
          refine ds_one (ds_append 4 rfl (de_tup B.tuple (db_own 7 rfl ⟨_, .inl rfl, by rw [List.length_map]; omega, rows ++ [r], some (.sh (.int f0)), some (.own (r.map .int)), c, by rw [List.map_append]; rfl, by rw [List.length_append]; show _ + 1 ≤ _; omega, fun z hz => ?_⟩)))
          · rcases List.mem_append.mp hz with hz | hz
            · exact hR z hz
            · rw [List.mem_singleton.mp hz]; exact hS
      · obtain ⟨rows, b, c, ek, rfl, hl, hR⟩ := hI
        have : (ones (rngD 0 (2 + q) t)).length = t := by simp [ones, rngD]
        rw [this] at hl
        exact ⟨rows, some (.sh (.int (2 + q))), b, c, ek, rfl, by omega, hR⟩
    obtain ⟨rows, a, b, c, ek, rfl, hl, hR⟩ := hJ
    -- one twice
    refine ds_mid (fun δ => ∃ (rows : List (List Int)) (a b c e : Option S), δ = [some .fee, some (.sh (.int p)), some (.sh (.int n)), some (.sh (.int m)), some (.own (rows.map tI)), a, b, c, e, none] ∧ rows.length ≤ 12 ∧ ∀ r ∈ rows, SumOk p n r) ?_ fun δ' hJ => ?_
    · refine ds_if (dt_w (dw_and (dt_cmp (dc_gt (de_len B.len (db_own 4 rfl ⟨_, .inl rfl, _, rfl, de_int ⟨1, rfl, ?_⟩⟩))))))
      refine isd (fun h1 => dw_and (dt_cmp (dc_gt (de_var 1 rfl ⟨p, rfl, de_int ⟨2, rfl, ?_⟩⟩)))) fun _ => ino rfl (ds_nil ⟨rows, a, b, c, ek, rfl, hl, hR⟩)
      refine isd (fun hp2 => dw_and1 (dt_cmp (dc_eqI ?_))) fun _ => ino rfl (ds_nil ⟨rows, a, b, c, ek, rfl, hl, hR⟩)
      refine de_callR C__law_pick hr (da_fee 0 rfl (da_cons (de_int (da_nil ⟨4, rfl, by decide, by decide, fun q _ _ => ⟨q, rfl, de_int ⟨0, rfl, ?_⟩⟩⟩))))
      refine isd (fun _ => ?_) fun _ => ds_nil ⟨rows, a, b, c, ek, rfl, hl, hR⟩
      cases rows with
      | nil => simp at h1
      | cons r0 rs =>
        have hr0 := hR r0 List.mem_cons_self
        have hrl := hr0.1.1
        refine ds_one (ds_store 4 rfl (de_tup B.tuple (db_lst (lc1 9 r0 .int (fun x => .int (2 * x % p)) rfl Sc.nd (di_s (dis_tup 9 (de_ix (db_own 4 rfl ⟨_, .inl rfl, de_int ⟨_, _, rfl, at_head, _, rfl, rfl, by omega, fun y hy s H C cl fp => ?_, ?_⟩⟩))))))))
        · refine de_mod (de_intc B.int (de_mul ?_))
          wtm_at "d"
          refine ⟨.inl ⟨by decide, by decide⟩, ?_⟩
          wtm_at "d"
          rfl
        · have el : (r0.map fun x => PyData.int (2 * x % p)) = (r0.map fun x => 2 * x % p).map .int := by rw [List.map_map]; rfl
          rw [el]
          refine ⟨_, .inl rfl, de_neg (de_int ⟨1, rfl, -1, rs.length, rfl, ?_, (r0 :: rs).set rs.length (r0.map fun x => 2 * x % p), a, b, c, ek, by rw [List.map_set]; rfl, by rw [List.length_set]; exact hl, fun z hz => ?_⟩)⟩
          · unfold ixN
            rw [List.length_map, List.length_cons, if_neg (by decide), if_pos (by omega)]
            congr 1; omega
          · rcases List.mem_or_eq_of_mem_set hz with hz | rfl
            · exact hR z hz
            · exact twice_ok hp hp2 hr0
    · obtain ⟨rows, a, b, c, ek, rfl, hl, hR⟩ := hJ
      refine ds_one (ds_retD (de_tup B.tuple (db_lst (dl_slice (db_own 4 rfl ⟨_, rfl, do_none (do_some (de_var 3 rfl ⟨m, rfl, ?_⟩))⟩)))))
      rw [cut_to, ← List.map_take]
      exact ⟨_, .inl rfl, hk _ (by rw [List.length_take]; omega) fun r hr => hR r ((List.take_sublist _ _).subset hr)⟩
end
theorem gt_app {a b : List Int} {i : Nat} : gt (a ++ b) i = if i < a.length then gt a i else gt b (i - a.length) := by
  unfold gt
  rw [List.getD_eq_getElem?_getD]
  by_cases h : i < a.length
  · rw [if_pos h, List.getElem?_append_left h, List.getD_eq_getElem?_getD]
  · rw [if_neg h, List.getElem?_append_right (by omega), List.getD_eq_getElem?_getD]
def zer (m : Nat) : List Int := List.replicate m 0
theorem padL {p : Int} {n m : Nat} {r : List Int} (hp : PrmI p) (h : SumOk p n r) : SumOk p (n + m) (r ++ zer m) := by
  have := hp.two
  refine ⟨⟨by unfold zer; rw [List.length_append, List.length_replicate, h.1.1], fun x hx => ?_⟩, ?_⟩
  · rcases List.mem_append.mp hx with hx | hx
    · exact h.1.2 x hx
    · rw [(List.mem_replicate.mp hx).2]; omega
  · obtain ⟨x, hx, h0⟩ := h.2
    exact ⟨x, List.mem_append_left _ hx, h0⟩
theorem padR {p : Int} {n m : Nat} {r : List Int} (hp : PrmI p) (h : SumOk p n r) : SumOk p (m + n) (zer m ++ r) := by
  have := hp.two
  refine ⟨⟨by unfold zer; rw [List.length_append, List.length_replicate, h.1.1], fun x hx => ?_⟩, ?_⟩
  · rcases List.mem_append.mp hx with hx | hx
    · rw [(List.mem_replicate.mp hx).2]; omega
    · exact h.1.2 x hx
  · obtain ⟨x, hx, h0⟩ := h.2
    exact ⟨x, List.mem_append_right _ hx, h0⟩
def sideRows (r1 r2 : List (List Int)) : List (List Int) := r1.map (fun r => r ++ zer 6) ++ r2.map fun r => zer 6 ++ r
theorem side_ok {p : Int} {r1 r2 : List (List Int)} (hp : PrmI p) (l1 : r1.length ≤ 4) (l2 : r2.length ≤ 4) (h1 : ∀ r ∈ r1, SumOk p 6 r) (h2 : ∀ r ∈ r2, SumOk p 6 r) : BookOk p 12 (sideRows r1 r2) := by
  refine ⟨hp, by decide, by decide, by unfold sideRows; rw [List.length_append, List.length_map, List.length_map]; omega, fun r hr => ?_⟩
  rcases List.mem_append.mp hr with hr | hr
  · obtain ⟨x, hx, rfl⟩ := List.mem_map.mp hr
    exact padL (m := 6) hp (h1 x hx)
  · obtain ⟨x, hx, rfl⟩ := List.mem_map.mp hr
    exact padR (m := 6) hp (h2 x hx)
theorem zer_data : (List.replicate 6 [PyData.int 0]).flatten = (zer 6).map .int := rfl
section
variable {P : Program} {w : World} {K : PySem.W.Frag} {mg : Str → Option Value} {base : Heap}
abbrev F__law_book : FS := fun ss k => ∃ (m : Nat), ss = [.fee, .sh (.int m)] ∧ 1 ≤ m ∧ m ≤ 12 ∧ ∀ p n rows, BookOk p n rows → k (bkD p n rows)
abbrev F_side_by_side : FS := fun ss k => ∃ (p : Int) (r1 r2 : List (List Int)), ss = [.sh (bkD p 6 r1), .sh (bkD p 6 r2)] ∧ PrmI p ∧ r1.length ≤ 4 ∧ r2.length ≤ 4 ∧ (∀ r ∈ r1, SumOk p 6 r) ∧ (∀ r ∈ r2, SumOk p 6 r) ∧ k (bkD p 12 (sideRows r1 r2))
abbrev F__law_wide : FS := fun ss k => ss = [.fee] ∧ ∀ p rows, BookOk p 12 rows → k (bkD p 12 rows)
theorem c__law_book (B : Bl mg) (Df : Def K mg "_law_book" 66 []) (C__law_any : Cal P w K mg base "_law_any" 2 [] F__law_any) (C__law_pick : Cal P w K mg base "_law_pick" 1 [] F__law_pick) (C__law_some : Cal P w K mg base "_law_some" 3 [] F__law_some) :
    Cal P w K mg base "_law_book" 4 [] F__law_book := by
  have Sc : FnScope ["_law_feed_here", "_law_most", "_law_prime", "_law_size"] ["_law_feed_here", "_law_most"] (defScope (tp 66)) := ⟨rfl, rfl, rfl, by decide +kernel, rfl, by decide +kernel, by decide +kernel⟩
  refine cal0 Df Sc (fun _ _ _ _ _ _ us hl => match us, hl with | [_, _], _ => rfl) (fun ss k h => ?_) fun f cdv A outer s H E hr ss k h => ?_
  · obtain ⟨_, rfl, _⟩ := h; rfl
  · obtain ⟨m, rfl, hm1, hm, hk⟩ := h
    refine ds_cons (ds_par 2 3 rfl Sc.nd (dv_sh (de_callR C__law_any hr (da_fee 0 rfl ?_))))
    wtm_at "d"
    refine ⟨[2, 2, 3, 3, 5, 7, 11, 13], rfl, by decide, by decide, fun p hpm => ?_⟩
    have hp : PrmI p := by
      have : p = 2 ∨ p = 2 ∨ p = 3 ∨ p = 3 ∨ p = 5 ∨ p = 7 ∨ p = 11 ∨ p = 13 := by simpa using hpm
      unfold PrmI; omega
    refine dv_sh (de_add (de_int ⟨1, rfl, de_callR C__law_pick hr (da_fee 0 rfl (da_cons (de_var 1 rfl (da_nil ⟨m, rfl, by omega, by omega, fun q q0 q1 => ⟨q, rfl, ?_⟩⟩))))⟩))
    obtain ⟨n, hn⟩ : ∃ n : Nat, 1 + q = n := ⟨(1 + q).toNat, by omega⟩
    rw [hn]
    refine ds_one (ds_retD (de_tuple (dd_cons (de_var 2 rfl (dd_cons (de_var 3 rfl (dd_cons ?_)))))))
    refine de_callR C__law_some hr (da_fee 0 rfl (da_cons (de_var 2 rfl (da_cons (de_var 3 rfl (da_cons (de_int (da_nil ?_))))))))
    refine ⟨p, n, 6, rfl, hp, by omega, by omega, by decide, fun rows hl hR => dd_nil ⟨Nat.le_of_ble_eq_true rfl, ?_⟩⟩
    exact hk p n rows ⟨hp, by omega, by omega, by omega, hR⟩
theorem c_side_by_side (B : Bl mg) (Df : Def K mg "side_by_side" 57 []) (C_want_book2 : Cal P w K mg base "want_book" 8 [] F_want_book2) (C_want : Cal P w K mg base "want" 1 [.int (-1)] F_want) (C_is_size : Cal P w K mg base "is_size" 3 [] F_is_size) :
    Cal P w K mg base "side_by_side" 9 [] F_side_by_side := by
  have Sc : FnScope ["one", "other", "ahead", "behind", "sums", "numbers"] ["one", "other"] (defScope (tp 57)) := ⟨rfl, rfl, rfl, by decide +kernel, rfl, by decide +kernel, by decide +kernel⟩
  refine cal0 Df Sc (fun _ _ _ _ _ _ us hl => match us, hl with | [_, _], _ => rfl) (fun ss k h => ?_) fun f cdv A outer s H E hr ss k h => ?_
  · obtain ⟨_, _, _, rfl, _⟩ := h; rfl
  · obtain ⟨p, r1, r2, rfl, hp, l1, l2, h1, h2, hk⟩ := h
    have B1 : BookOk p 6 r1 := ⟨hp, by decide, by decide, by omega, h1⟩
    have B2 : BookOk p 6 r2 := ⟨hp, by decide, by decide, by omega, h2⟩
    refine ds_cons (ds_ex (de_callR C_want_book2 hr ?_))
    wtm_at "d"
    refine (ds_ex (de_callR C_want_book2 hr ?_))
    wtm_at "d"
    refine (ds_ex (de_callR C_want hr (da_cons (de_and (de_cmp (dc_eqI ?_))))))
    wtm_at "d"
    refine iyd rfl (de_one (de_callR C_is_size hr (da_cons (de_add ?_))))
    wtm_at "d"
    refine ds_pair 2 3 rfl Sc.nd (dv_sh (de_mulT ?_))
    wtm_at "d"
    refine ⟨by simp, by simp, dv_sh (de_mulT ?_)⟩
    wtm_at "d"
    refine ⟨by simp, by simp, ?_⟩
    rw [zer_data]
    refine ds_cons (ds_set 4 Sc.nd (dv_sh (de_lst (dl_list (dd_star (db_lst (lc1 5 r1 tI (fun r => tI (r ++ zer 6)) rfl Sc.nd (di_s (dis_tup 5 (de_ix ?_))))))))))
    wtm_at "d"
    refine ⟨fun r hr' s H C cl fp => ?_, ?_⟩
    · have hrl := (h1 r hr').1.1
      refine de_tuple (dd_star ?_)
      wtm_at "d"
      refine ⟨by simp [zer]; omega, by rw [tI, List.map_append, List.append_nil]⟩
    · refine ⟨_, .inl rfl, dd_star (db_lst (lc1 5 r2 tI (fun r => tI (zer 6 ++ r)) rfl Sc.nd (di_s (dis_tup 5 (de_ix ?_)))))⟩
      wtm_at "d"
      refine ⟨fun r hr' s H C cl fp => ?_, ?_⟩
      · have hrl := (h2 r hr').1.1
        refine de_tuple (dd_star ?_)
        wtm_at "d"
        refine ⟨by simp [zer]; omega, by rw [tI, List.map_append, List.append_nil]⟩
      · wtm_at "d"
        have el : r1.map (fun r => tI (r ++ zer 6)) ++ (r2.map (fun r => tI (zer 6 ++ r)) ++ []) = (sideRows r1 r2).map tI := by
          unfold sideRows
          rw [List.append_nil, List.map_append, List.map_map, List.map_map]; rfl
        rw [el]
        refine ⟨by unfold sideRows; rw [List.length_map, List.length_append, List.length_map, List.length_map]; omega, ?_⟩
        refine ds_one (ds_retD (de_tuple (dd_cons (de_ix ?_))))
        wtm_at "d"
        refine de_add (de_ix ?_)
        wtm_at "d"
        exact hk
theorem c__law_wide (B : Bl mg) (Df : Def K mg "_law_wide" 79 []) (C__law_any : Cal P w K mg base "_law_any" 2 [] F__law_any) (C__law_some : Cal P w K mg base "_law_some" 3 [] F__law_some) (C_side_by_side : Cal P w K mg base "side_by_side" 9 [] F_side_by_side) (C__law_same : Cal P w K mg base "_law_same" 4 [] F__law_same) :
    Cal P w K mg base "_law_wide" 10 [] F__law_wide := by
  have Sc : FnScope ["_law_feed_here", "_law_prime", "_law_one", "_law_two", "_law_rows", "_law_found", "_law_row_here"] ["_law_feed_here"] (defScope (tp 79)) := ⟨rfl, rfl, rfl, by decide +kernel, rfl, by decide +kernel, by decide +kernel⟩
  refine cal0 Df Sc (fun _ _ _ _ _ _ us hl => match us, hl with | [_], _ => rfl) (fun ss k h => ?_) fun f cdv A outer s H E hr ss k h => ?_
  · obtain ⟨rfl, _⟩ := h; rfl
  · obtain ⟨rfl, hk⟩ := h
    refine ds_cons (ds_set 1 Sc.nd (dv_sh (de_callR C__law_any hr (da_fee 0 rfl ?_))))
    wtm_at "d"
    refine ⟨[2, 3, 5, 13], rfl, by decide, by decide, fun p hpm => ?_⟩
    have hp : PrmI p := by
      have : p = 2 ∨ p = 3 ∨ p = 5 ∨ p = 13 := by simpa using hpm
      unfold PrmI; omega
    refine ds_cons (ds_par 2 3 rfl Sc.nd (dv_sh (de_callR C__law_some hr (da_fee 0 rfl (da_cons (de_var 1 rfl (da_cons (de_int (da_cons (de_int (da_nil ?_)))))))))))
    refine ⟨p, 6, 4, rfl, hp, by decide, by decide, by decide, fun r1 l1 h1 => dv_sh (de_callR C__law_some hr (da_fee 0 rfl (da_cons (de_var 1 rfl (da_cons (de_int (da_cons (de_int (da_nil ?_)))))))))⟩
    refine ⟨p, 6, 4, rfl, hp, by decide, by decide, by decide, fun r2 l2 h2 => ?_⟩
    refine ds_cons (ds_set 4 Sc.nd (dv_sh (de_lst (dl_cat (db_lst (lc1 6 r1 tI (fun r => tI (r ++ zer 6)) rfl Sc.nd (di_s (dis_tup 6 ?_))))))))
    wtm_at "d"
    refine ⟨fun r hr' s H C cl fp => ?_, ?_⟩
    · have hrl := (h1 r hr').1.1
      refine de_catT ?_
      wtm_at "d"
      refine de_mulT ?_
      wtm_at "d"
      exact ⟨by simp, by simp, (zer 6).map .int, rfl, by simp [zer]; omega, by rw [tI, List.map_append]⟩
    · refine ⟨_, rfl, db_lst (lc1 6 r2 tI (fun r => tI (zer 6 ++ r)) rfl Sc.nd (di_s (dis_tup 6 ?_)))⟩
      wtm_at "d"
      refine ⟨fun r hr' s H C cl fp => ?_, ?_⟩
      · have hrl := (h2 r hr').1.1
        refine de_catT (de_mulT ?_)
        wtm_at "d"
        refine ⟨by simp, by simp, (zer 6).map .int, rfl, ?_⟩
        wtm_at "d"
        exact ⟨by simp [zer]; omega, by rw [tI, List.map_append]⟩
      · refine ⟨_, rfl, by rw [List.length_map, List.length_map]; omega, ?_⟩
        have el : r1.map (fun r => tI (r ++ zer 6)) ++ r2.map (fun r => tI (zer 6 ++ r)) = (sideRows r1 r2).map tI := by
          unfold sideRows
          rw [List.map_append, List.map_map, List.map_map]; rfl
        rw [el]
        refine ds_cons (ds_set 5 Sc.nd (dv_sh (de_callR C_side_by_side hr (da_cons (de_tuple ?_)))))
        wtm_at "d"
        have hB := side_ok hp l1 l2 h1 h2
        refine de_callR C__law_same hr ?_
        wtm_at "d"
        refine ⟨bkD p 12 (sideRows r1 r2), rfl, .inr (.inr ⟨_, .inr rfl, Nat.le_of_ble_eq_true rfl, fun x hx => ?_⟩), ?_⟩
        · have hx : x = .int p ∨ x = .int (12 : Nat) ∨ x = tR (sideRows r1 r2) := by simpa using hx
          rcases hx with rfl | rfl | rfl
          · exact gd_int _
          · exact gd_int _
          · refine .inr (.inr ⟨_, .inr rfl, by rw [List.length_map]; have := hB.few; omega, fun y hy => ?_⟩)
            obtain ⟨r, hr', rfl⟩ := List.mem_map.mp hy
            exact gd_tI (by rw [(hB.sum r hr').1.1]; decide)
        · refine ⟨true, rfl, iy rfl ?_⟩
          wtm_at "d"
          exact hk p _ hB
end
theorem eqv_ints : ∀ l : List Int, PyData.eqvAll (l.map .int) (l.map .int) = true
  | [] => rfl
  | a :: l => by
    show (PyData.eqv (.int a) (.int a) && PyData.eqvAll (l.map .int) (l.map .int)) = true
    rw [eqv_ints l]
    show ((a == a) && true) = true
    simp
theorem eqvTT (l : List Int) : PyData.eqv (.tuple (l.map .int)) (.tuple (l.map .int)) = true := eqv_ints l
theorem TiesOk.app {p : Int} {n : Nat} {rows a b : List (List Int)} (ha : TiesOk p n rows a) (hb : TiesOk p n rows b) (h : a.length + b.length ≤ 40) : TiesOk p n rows (a ++ b) :=
  ⟨by rw [List.length_append]; exact h, fun x hx => (List.mem_append.mp hx).elim (ha.sum x) (hb.sum x), fun x hx => (List.mem_append.mp hx).elim (ha.sp x) (hb.sp x)⟩
theorem TiesOk.rev {p : Int} {n : Nat} {rows a : List (List Int)} (ha : TiesOk p n rows a) : TiesOk p n rows a.reverse :=
  ⟨by rw [List.length_reverse]; exact ha.few, fun x hx => ha.sum x (List.mem_reverse.mp hx), fun x hx => ha.sp x (List.mem_reverse.mp hx)⟩
section
variable {P : Program} {w : World} {K : PySem.W.Frag} {mg : Str → Option Value} {base : Heap}
variable {f : Addr} {cdv : Value} {A : Around} {outer : List Env} {s : Shared} {H : Hp} {E : XK}
abbrev fineN : List Str := ["_law_feed_here", "_law_base", "_law_ties", "_law_away", "_law_groups", "_law_due", "_law_left", "_law_back_here", "_law_late", "_law_less_here", "_law_more", "_law_fewer", "_law_k"]
theorem fine_nd : fineN.Nodup := by decide +kernel
abbrev fineX (P : Program) (w : World) (K : PySem.W.Frag) (mg : Str → Option Value) (base : Heap) (f : Addr) (cdv : Value) (A : Around) (outer : List Env) (s : Shared) (H : Hp) (E : XK) : Cx := bodyX P w K mg base fineN "_law_is_fine" (defScope (tp 82)) f cdv A outer s H E
abbrev F__law_is_fine : FS := fun ss k => ∃ (p : Int) (n : Nat) (rows ties : List (List Int)) (away : List Nat), ss = [.fee, .sh (bkD p n rows), .sh (tR ties), .sh (tN away)] ∧ BookOk p n rows ∧ TiesOk p n rows ties ∧ ties.length ≤ 12 ∧ LotOk n away ∧ k (.bool true)
theorem spots_few {n : Nat} (hn : n ≤ 12) (l : List (List Int)) : ∀ pl ∈ l.map (spotsOf n), pl.length ≤ 12 := fun pl hpl => by
  obtain ⟨x, _, rfl⟩ := List.mem_map.mp hpl
  have := List.length_filter_le (fun s => decide (0 < gt x s)) (List.range n)
  rw [List.length_range] at this
  exact Nat.le_trans this hn
theorem fine_tail (B : Bl mg) (C_left_by : Cal P w K mg base "left_by" 10 [] F_left_by) (C__law_same : Cal P w K mg base "_law_same" 4 [] F__law_same) (C__law_goings : Cal P w K mg base "_law_goings" 1 [] F__law_goings) (C__law_places : Cal P w K mg base "_law_places" 1 [] F__law_places) (C__law_is_by_papers : Cal P w K mg base "_law_is_by_papers" 12 [] F__law_is_by_papers) {p : Int} {n : Nat} {rows ties : List (List Int)} {away left : List Nat} {D1 : DEnd} {s4 s5 s8 s9 : Option S} (hr : Room 12 (A.deeper (PyProof.Rows.envOfC "_law_is_fine" (defScope (tp 82)) s.heap.objs.size f cdv)))
    (hb : BookOk p n rows) (hT : TiesOk p n rows ties) (htl : ties.length ≤ 12) (hlot : LotOk n away) (hleft : left.length ≤ 12) (hmore : ∀ x ∈ (goBy ((ties ++ rows).map (spotsOf n)) away).2, x ∈ left) (hk : D1.rt (.bool true)) :
    DSs (fineX P w K mg base f cdv A outer s H E) ((defBody (tp 82)).drop 9) [some .fee, some (.sh (bkD p n rows)), some (.sh (tR ties)), some (.sh (tN away)), s4, s5, some (.sh (tN left)), some (.sh (tN (backOf p n rows away))), s8, s9, none, none, none] D1 := by
  have hn := hb.n2
  have hfew := hb.few
  have hL := lot_len hlot
  have ha := hlot.1
  have hal : away.length ≤ 12 := by omega
  have hM : TiesOk p n rows (ties ++ rows) := hT.app ⟨by omega, hb.sum, fun x hx => inSp_row hx⟩ (by omega)
  have hMl : (ties ++ rows).length ≤ 60 := by rw [List.length_append]; omega
  have hlen2 : (goBy ((ties ++ rows).map (spotsOf n)) away).2.length ≤ 12 := Nat.le_trans (goRun_len _ _ _).2.1 hal
  refine ds_cons (ds_set 10 fine_nd (dv_sh (de_catT (de_var 2 rfl ⟨_, rfl, de_ix (db_of (de_var 1 rfl ⟨_, .inr rfl, de_int ⟨2, _, rfl, rfl, _, rfl, by rw [List.length_map, List.length_map]; omega, ?_⟩⟩))⟩))))
  rw [← List.map_append]
  generalize ties ++ rows = more at hM hMl hlen2 hmore
  have hMr : ∀ r ∈ more, RowOk p n r := fun r hr => (hM.sum r hr).1
  obtain ⟨fw, hfw⟩ : ∃ fw, (goBy (more.map (spotsOf n)) away).2 = fw := ⟨_, rfl⟩
  rw [hfw] at hlen2 hmore
  refine ds_cons (ds_set 11 fine_nd (dv_sh (de_callR C_left_by hr (da_cons (de_var 1 rfl (da_cons (de_var 10 rfl (da_cons (de_var 3 rfl (da_nil ⟨p, n, rows, more, away, rfl, hb, hM, hlot, ?_⟩))))))))))
  rw [hfw]
  refine ds_mid (fun δ => δ = [some .fee, some (.sh (bkD p n rows)), some (.sh (tR ties)), some (.sh (tN away)), s4, s5, some (.sh (tN left)), some (.sh (tN (backOf p n rows away))), s8, s9, some (.sh (tR more)), some (.sh (tN fw)), none]) (ds_if (dt_not (dt_val (de_callR C__law_same hr (da_cons (de_ix (db_of (de_callR C__law_goings hr (da_cons (de_callR C__law_places hr ?_)))))))))) fun δ' hJ => ?_
  · refine da_cons (de_var 10 rfl (da_cons (de_ix (db_of (de_var 1 rfl ?_)))))
    refine ⟨_, .inr rfl, de_int ⟨1, _, rfl, rfl, da_nil ⟨p, n, more, rfl, hMr, hn, hMl, ?_⟩⟩⟩
    refine da_cons (de_var 3 rfl (da_nil ⟨more.map (spotsOf n), away, rfl, by rw [List.length_map]; exact hMl, spots_few hn more, ha, hal, ?_⟩))
    rw [hfw]
    exact ⟨_, .inr rfl, de_int ⟨1, _, rfl, rfl, da_cons (de_var 11 rfl (da_nil ⟨tN fw, rfl, gd_tN (by omega), true, rfl, ino rfl (ds_nil rfl)⟩))⟩⟩
  · subst hJ
    refine ds_one (ds_retD (de_and (de_cmp (dc_eqD (hu_of hr) (db_lst (lcf 12 fw (fun i => .int (i : Int)) (fun _ => false) (fun i => .int (i : Int)) rfl fine_nd (di_s (dis_tup 12 (de_var 11 rfl ?_)))))))))
    refine ⟨_, rfl, by rw [nI, List.map_map]; rfl, by omega, fun y hy s H C cl fp => ?_, fun y hy h => (by cases h), ?_⟩
    · refine dt_cmp (dc_notin (de_var 12 rfl ⟨y, rfl, db_of (de_var 6 rfl ⟨nI left, .inr rfl, ?_⟩)⟩))
      have hm : (y : Int) ∈ nI left := mem_nI.mpr (hmore y hy)
      simp [hm]
    · rw [filt_no]
      refine db_lst (dl_list (dd_nil ⟨Nat.zero_le _, rfl, rfl, true, rfl, iy rfl (de_one (de_callR C__law_is_by_papers hr ?_))⟩))
      exact da_cons (de_var 1 rfl (da_cons (de_var 3 rfl (da_cons (de_var 7 rfl (da_nil ⟨p, n, rows, away, rfl, hb, hlot, hk⟩))))))
theorem fine_mid (B : Bl mg) (C_left_by : Cal P w K mg base "left_by" 10 [] F_left_by) (C__law_same : Cal P w K mg base "_law_same" 4 [] F__law_same) (C__law_goings : Cal P w K mg base "_law_goings" 1 [] F__law_goings) (C__law_places : Cal P w K mg base "_law_places" 1 [] F__law_places) (C__law_is_by_papers : Cal P w K mg base "_law_is_by_papers" 12 [] F__law_is_by_papers) (C__law_back : Cal P w K mg base "_law_back" 4 [] F__law_back) (C__law_pick : Cal P w K mg base "_law_pick" 1 [] F__law_pick) {p : Int} {n : Nat} {rows ties : List (List Int)} {away left : List Nat} {D1 : DEnd} {s5 : Option S} (hr : Room 12 (A.deeper (PyProof.Rows.envOfC "_law_is_fine" (defScope (tp 82)) s.heap.objs.size f cdv)))
    (hb : BookOk p n rows) (hT : TiesOk p n rows ties) (htl : ties.length ≤ 12) (hlot : LotOk n away) (hleft : left.length ≤ 12) (hback : ∀ y ∈ away, y ∉ left → y ∈ backOf p n rows away) (hless : ∀ late, LotOk n late → (∀ x ∈ late, x ∈ away) → ∀ x ∈ (goBy (ties.map (spotsOf n)) late).2, x ∈ left)
    (hmore : ∀ x ∈ (goBy ((ties ++ rows).map (spotsOf n)) away).2, x ∈ left) (hk : D1.rt (.bool true)) :
    DSs (fineX P w K mg base f cdv A outer s H E) ((defBody (tp 82)).drop 4) [some .fee, some (.sh (bkD p n rows)), some (.sh (tR ties)), some (.sh (tN away)), some (.sh (.list ((ties.map (spotsOf n)).map lN))), s5, some (.sh (tN left)), none, none, none, none, none, none] D1 := by
  have hn := hb.n2
  have hL := lot_len hlot
  have ha := hlot.1
  have hGl : (ties.map (spotsOf n)).length ≤ 60 := by rw [List.length_map]; omega
  -- what is mended is told back
  refine ds_cons (ds_set 7 fine_nd (dv_sh (de_callR C__law_back hr (da_cons (de_var 1 rfl (da_cons (de_var 3 rfl (da_nil ⟨p, n, rows, away, rfl, hb, hlot, ?_⟩))))))))
  refine ds_cons (ds_if (dt_cmp (dc_neD (hu_of hr) (db_lst (lcf 12 away (fun i => .int (i : Int)) (fun _ => false) (fun i => .int (i : Int)) rfl fine_nd (di_s (dis_tup 12 (de_var 3 rfl ?_))))))))
  refine ⟨_, rfl, by rw [nI, List.map_map]; rfl, by omega, fun y hy s H C cl fp => ?_, fun y hy h => (by cases h), ?_⟩
  · refine dt_and (dt_cmp (dc_notin (de_var 12 rfl ⟨y, rfl, db_of (de_var 6 rfl ⟨nI left, .inr rfl, ?_⟩)⟩)))
    refine isn (fun e => ?_) fun _ => rfl
    refine dt_cmp (dc_notin (de_var 12 rfl ⟨y, rfl, db_of (de_var 7 rfl ⟨nI (backOf p n rows away), .inr rfl, ?_⟩)⟩))
    have hm : (y : Int) ∈ nI (backOf p n rows away) := mem_nI.mpr (hback y hy fun z => e (mem_nI.mpr z))
    simp [hm]
  rw [filt_no]
  refine db_lst (dl_list (dd_nil ⟨Nat.zero_le _, rfl, rfl, ino rfl (ds_nil ?_)⟩))
  -- a lot within
  refine ds_cons (ds_set 8 fine_nd (dv_sh (de_tup B.tuple (db_lst (lcS 12 away rfl fine_nd (di_s (dis_tup 12 (de_var 3 rfl ?_))))))))
  refine ⟨_, rfl, by rw [nI, List.map_map]; rfl, by omega, fun y _ s H C cl fp => ?_, fun y _ s H C cl fp => ?_, fun late hlt => ?_⟩
  · exact dt_cmp (dc_gt (de_callR C__law_pick hr (da_fee 0 rfl (da_cons (de_int (da_nil ⟨3, rfl, by decide, by decide, fun r _ _ => ⟨r, rfl, de_int ⟨0, rfl, trivial⟩⟩⟩))))))
  · exact de_var 12 rfl rfl
  have hlate : LotOk n late := ⟨ha.sublist hlt, fun x hx => hlot.2 x (hlt.subset hx)⟩
  have hll : late.length ≤ 12 := by have := lot_len hlate; omega
  have hle := hless late hlate fun x hx => hlt.subset hx
  have hlen : (goBy (ties.map (spotsOf n)) late).2.length ≤ 12 := Nat.le_trans (goRun_len _ _ _).2.1 hll
  obtain ⟨lw, hlw⟩ : ∃ lw, (goBy (ties.map (spotsOf n)) late).2 = lw := ⟨_, rfl⟩
  rw [hlw] at hle hlen
  refine ⟨_, .inl rfl, ?_⟩
  refine ds_cons (ds_set 9 fine_nd (dv_sh (de_callR C_left_by hr (da_cons (de_var 1 rfl (da_cons (de_var 2 rfl (da_cons (de_var 8 rfl (da_nil ⟨p, n, rows, ties, late, rfl, hb, hT, hlate, ?_⟩))))))))))
  rw [hlw]
  refine ds_cons (ds_if (dt_or (dt_not (dt_val (de_callR C__law_same hr (da_cons (de_ix (db_of (de_callR C__law_goings hr ?_)))))))))
  refine da_cons (de_var 4 rfl (da_cons (de_var 8 rfl (da_nil ⟨ties.map (spotsOf n), late, rfl, hGl, spots_few hn ties, hlate.1, hll, ?_⟩))))
  rw [hlw]
  refine ⟨_, .inr rfl, de_int ⟨1, _, rfl, rfl, da_cons (de_var 9 rfl (da_nil ⟨tN lw, rfl, gd_tN (by omega), true, rfl, ino rfl ?_⟩))⟩⟩
  refine dt_cmp (dc_neD (hu_of hr) (db_lst (lcf 12 lw (fun i => .int (i : Int)) (fun _ => false) (fun i => .int (i : Int)) rfl fine_nd (di_s (dis_tup 12 (de_var 9 rfl ?_))))))
  refine ⟨_, rfl, by rw [nI, List.map_map]; rfl, by omega, fun y hy s H C cl fp => ?_, fun y hy h => (by cases h), ?_⟩
  · refine dt_cmp (dc_notin (de_var 12 rfl ⟨y, rfl, db_of (de_var 6 rfl ⟨nI left, .inr rfl, ?_⟩)⟩))
    have hm : (y : Int) ∈ nI left := mem_nI.mpr (hle y hy)
    simp [hm]
  rw [filt_no]
  exact db_lst (dl_list (dd_nil ⟨Nat.zero_le _, rfl, rfl, ino rfl (ds_nil (fine_tail B C_left_by C__law_same C__law_goings C__law_places C__law_is_by_papers hr hb hT htl hlot hleft hmore hk))⟩))
theorem c__law_is_fine (B : Bl mg) (Df : Def K mg "_law_is_fine" 82 []) (C__law_places : Cal P w K mg base "_law_places" 1 [] F__law_places) (C__law_goings : Cal P w K mg base "_law_goings" 1 [] F__law_goings) (C__law_is_told : Cal P w K mg base "_law_is_told" 11 [] F__law_is_told) (C__law_one_by_one : Cal P w K mg base "_law_one_by_one" 3 [] F__law_one_by_one) (C__law_back : Cal P w K mg base "_law_back" 4 [] F__law_back) (C__law_pick : Cal P w K mg base "_law_pick" 1 [] F__law_pick) (C_left_by : Cal P w K mg base "left_by" 10 [] F_left_by) (C__law_same : Cal P w K mg base "_law_same" 4 [] F__law_same) (C__law_is_by_papers : Cal P w K mg base "_law_is_by_papers" 12 [] F__law_is_by_papers) :
    Cal P w K mg base "_law_is_fine" 13 [] F__law_is_fine := by
  have Sc : FnScope ["_law_feed_here", "_law_base", "_law_ties", "_law_away", "_law_groups", "_law_due", "_law_left", "_law_back_here", "_law_late", "_law_less_here", "_law_more", "_law_fewer", "_law_k"] ["_law_feed_here", "_law_base", "_law_ties", "_law_away"] (defScope (tp 82)) := ⟨rfl, rfl, rfl, by decide +kernel, rfl, by decide +kernel, by decide +kernel⟩
  refine cal0 Df Sc (fun _ _ _ _ _ _ us hl => match us, hl with | [_, _, _, _], _ => rfl) (fun ss k h => ?_) fun f cdv A outer s H E hr ss k h => ?_
  · obtain ⟨_, _, _, _, _, rfl, _⟩ := h; rfl
  · obtain ⟨p, n, rows, ties, away, rfl, hb, hT, htl, hlot, hk⟩ := h
    have hn := hb.n2
    have hp := hb.prm
    have hL := lot_len hlot
    have ha := hlot.1
    have hal : away.length ≤ 12 := by omega
    have hrow : ∀ r ∈ ties, RowOk p n r := fun r hr => (hT.sum r hr).1
    have hGl : (ties.map (spotsOf n)).length ≤ 60 := by rw [List.length_map]; omega
    have hG2 := spots_few hn ties
    have hlotL : LotOk n (goBy (ties.map (spotsOf n)) away).2 := ⟨(goBy_fin ha).asc, fun x hx => hlot.2 x ((goBy_fin ha).sub x hx)⟩
    refine ds_cons (ds_set 4 Sc.nd (dv_sh (de_callR C__law_places hr (da_cons (de_var 2 rfl (da_cons (de_ix (db_of (de_var 1 rfl ?_)))))))))
    refine ⟨_, .inr rfl, de_int ⟨1, _, rfl, rfl, da_nil ⟨p, n, ties, rfl, hrow, hn, by omega, ?_⟩⟩⟩
    refine ds_cons (ds_unp2 5 6 rfl Sc.nd (de_callR C__law_goings hr (da_cons (de_var 4 rfl (da_cons (de_var 3 rfl (da_nil ⟨ties.map (spotsOf n), away, rfl, hGl, hG2, ha, hal, _, _, rfl, ?_⟩)))))))
    refine ds_cons (ds_if (dt_or (dt_not (dt_val (de_callR C__law_is_told hr ?_)))))
    refine da_cons (de_var 1 rfl (da_cons (de_var 2 rfl (da_cons (de_var 3 rfl (da_cons (de_var 5 rfl (da_cons (de_var 6 rfl (da_nil ⟨p, n, rows, ties, away, rfl, hb, hT, hlot, true, rfl, ino rfl ?_⟩))))))))))
    refine dt_cmp (dc_neD (hu_of hr) (db_of (de_callR C__law_one_by_one hr (da_fee 0 rfl (da_cons (de_var 4 rfl (da_cons (de_var 3 rfl (da_nil ⟨ties.map (spotsOf n), away, rfl, hGl, hG2, ha, hal, ?_⟩)))))))))
    refine db_of (de_var 6 rfl ⟨shT _, shT _, ?_⟩)
    rw [eqvTT]
    refine ino rfl (ds_nil ?_)
    -- turned about and told twice; what is left stays
    refine ds_cons (ds_if (dt_or (dt_not (dt_val (de_callR C__law_is_told hr (da_cons (de_var 1 rfl (da_cons (de_catT (de_back (de_var 2 rfl ?_)))))))))))
    refine ⟨_, rfl, _, rfl, de_var 2 rfl ⟨_, rfl, by rw [List.length_reverse, List.length_map]; omega, ?_⟩⟩
    have eR : (ties.map tI).reverse ++ ties.map tI = (ties.reverse ++ ties).map tI := by rw [List.map_append, List.map_reverse]
    rw [eR]
    have eC : goBy ((ties.reverse ++ ties).map (spotsOf n)) away = goBy (ties.map (spotsOf n)) away := goBy_congr (fun pl => by
      simp only [List.mem_map, List.mem_append, List.mem_reverse, or_self]) away
    refine da_cons (de_var 3 rfl (da_cons (de_var 5 rfl (da_cons (de_var 6 rfl (da_nil ?_))))))
    refine ⟨p, n, rows, ties.reverse ++ ties, away, by rw [eC]; rfl, hb, hT.rev.app hT (by rw [List.length_reverse]; omega), hlot, true, rfl, ino rfl ?_⟩
    refine dt_not (dt_val (de_callR C__law_is_told hr (da_cons (de_var 1 rfl (da_cons (de_var 2 rfl (da_cons (de_var 6 rfl (da_cons (de_tuple (dd_nil ⟨Nat.zero_le _, da_cons (de_var 6 rfl (da_nil ?_))⟩)))))))))))
    refine ⟨p, n, rows, ties, (goBy (ties.map (spotsOf n)) away).2, by rw [goBy_left ha]; rfl, hb, hT, hlotL, true, rfl, ino rfl (ds_nil ?_)⟩
    refine fine_mid B C_left_by C__law_same C__law_goings C__law_places C__law_is_by_papers C__law_back C__law_pick hr hb hT htl hlot (Nat.le_trans (goRun_len _ _ _).2.1 hal) (fun y hy e => ?_) (fun late hlate hsub => goBy_less hlate.1 ha hsub) ?_ hk
    · exact List.mem_filter.mpr ⟨hy, knownB_iff.mpr (mended_known hp hlot (fun x hx => ⟨hrow x hx, hT.sp x hx⟩) y hy e)⟩
    · refine goBy_more (G := ties.map (spotsOf n)) ha fun pl hpl => ?_
      obtain ⟨x, hx, rfl⟩ := List.mem_map.mp hpl
      exact List.mem_map_of_mem (List.mem_append_left _ hx)
end
theorem sqL_sub {K : PySem.W.Frag} {H H' : Hp} {a : Addr} {xs : List V} (h : SqL K H a xs) (e : Sub H H') : SqL K H' a xs :=
  h.elim (fun h => .inl (h.elim (fun h => .inl (e _ _ h)) fun ⟨o, h⟩ => .inr ⟨o, e _ _ h⟩)) fun h => .inr h
theorem cutV_ints (ns : List Int) (lo hi : Option Int) : ∃ ms : List Int, cutV (ns.map V.int) lo hi = ms.map V.int :=
  ⟨(ns.drop (HT.sIx (ns.map V.int).length 0 lo)).take (HT.sIx (ns.map V.int).length (ns.map V.int).length hi - HT.sIx (ns.map V.int).length 0 lo), by
    unfold cutV
    rw [List.map_take, List.map_drop]⟩
section
variable {X : Cx} {es xs : List Expr} {δ : DS} {pos : Pos}
theorem dd_consT {m : Nat} {k : List D → Prop} (h : DE X (.Tuple xs m pos) δ fun d => DDs X es δ fun ds => k (d :: ds)) : DDs X (.Tuple xs m pos :: es) δ k := dd_cons h
theorem dd_consI {m : Nat} {i : Int} {k : List D → Prop} (h : DDs X es δ fun ds => k (.int i :: ds)) : DDs X (.Constant (.int i) m pos :: es) δ k := dd_cons (de_int h)
theorem star_two {a b : List Expr} {m n : Nat} {p q : Pos} (env : Env) : starEach [.Tuple a m p, .Tuple b n q] env = (false, eval (.Tuple a m p) env) :: starEach [.Tuple b n q] env := rfl
theorem star_one {b : List Expr} {n : Nat} {q : Pos} (env : Env) : starEach [.Tuple b n q] env = (false, eval (.Tuple b n q) env) :: starEach [] env := rfl
end
theorem dss_run {X : Cx} {st : List Stmt} {σ : L2.St} {H : Hp} {Z : Ends} {δ : DS} {E : DEnd} (W0 : Wd) (H0 G : Hp) (W : Wd) (a : At W0 H0 G W H σ δ) (z : EndOk W0 H0 G E Z) (h : DSs X st δ E) : wSs X st Z σ H := h W0 H0 G W H σ a Z z
section
variable {P : Program} {w : World} {K : PySem.W.Frag} {mg : Str → Option Value} {base : Heap}
abbrev spFeed (K : PySem.W.Frag) : Sp := fun vs H Q _ => ∃ (a : Addr) (ns : List Int), vs = [.ref a] ∧ SqL K H a (ns.map V.int) ∧ ∀ (fd c : Addr) (cells : List Int) (H' : Hp), H' fd = some (.dK (feedD c 0 0 0)) → c ≠ fd → H' c = some (.lst (cells.map V.int)) → Q (.ref fd) H'
abbrev spLaw (K : PySem.W.Frag) : Sp := fun vs H Q _ => ∃ (a : Addr) (ns : List Int), vs = [.ref a] ∧ SqL K H a (ns.map V.int) ∧ ∀ H', Q (.bl true) H'
theorem ok_feed {f : Addr} {fd : FuncData} (B : Bl mg) (F : FnP K "_law_feed" 61 [] f fd) : FnOk P w K mg base CX0 1 f fd ["_law_script"] (spFeed K) := by
  have Sc : FnScope ["_law_script"] ["_law_script"] (defScope (tp 61)) := ⟨rfl, rfl, rfl, by decide +kernel, rfl, by decide +kernel, by decide +kernel⟩
  refine F.ok Sc (fun vs H Q E h => ?_) (fun cdv A outer s H vs Q E hr h => ⟨_, PSs.nox (pss_one (ps_ret (pe_disp (pps_cons pe_str (pe_callTy call_list_of rfl B.list (by decide +kernel) (pa_cons (pe_slice sl_list (pv 0) po_none (po_some pe_int)) pa_nil)) (pps_cons pe_str pe_int (pps_cons pe_str pe_int (pps_cons pe_str pe_int pps_nil)))) rfl rfl (by simp) (by decide)))), ?_⟩)
  · obtain ⟨a, ns, rfl, _⟩ := h; rfl
  · obtain ⟨a, ns, rfl, hS, hQ⟩ := h
    intro p hp
    obtain ⟨ms, hms⟩ := cutV_ints ns none (some 63)
    refine ⟨_, rfl, _, rfl, a, _, rfl, sqL_sub hS (Sub.put hp), fun p1 hp1 => ?_⟩
    rw [hms]
    refine ⟨p1, _, rfl, .inl (SqL.of upd_same), fun l hl => ?_⟩
    have hl2 : l ≠ p1 := fun z => by rw [z, upd_same] at hl; cases hl
    have hl3 : upd H p (.dK []) l = none := by rw [upd_ne hl2] at hl; exact hl
    have hlp : l ≠ p := fun z => by rw [z, upd_same] at hl3; cases hl3
    have hp1p : p ≠ p1 := fun z => by rw [← z, upd_same] at hp1; cases hp1
    refine ⟨by rw [upd_ne (fun z => hlp z.symm), upd_ne hp1p, upd_same], [(.inr "cells", .ref l), (.inr "next", .int 0), (.inr "rest", .int 0), (.inr "turn", .int 0)], rfl, by simp, ?_⟩
    refine hQ p l ms _ ?_ hlp ?_
    · rw [upd_same]
      rfl
    · rw [upd_ne hlp, upd_same]
abbrev rgR : List (List Int) := [[1, 1, 1, 0], [0, 1, 1, 1]]
abbrev rwR : List (List Int) := [[1, 1, 0, 0, 0], [0, 1, 1, 0, 0], [0, 0, 1, 1, 0]]
theorem rg_ok : BookOk 5 4 rgR := ⟨by unfold PrmI; decide, by decide, by decide, by decide, by unfold SumOk RowOk; decide⟩
theorem rw_ok : BookOk 2 5 rwR := ⟨by unfold PrmI; decide, by decide, by decide, by decide, by unfold SumOk RowOk; decide⟩
structure Fine where
  p : Int
  n : Nat
  rows : List (List Int)
  away : List Nat
def fours : List Fine := [⟨5, 4, rgR, [0, 1]⟩, ⟨5, 4, rgR, [0, 1, 2]⟩, ⟨2, 5, rwR, [0, 1, 2]⟩, ⟨2, 5, rwR, [1, 2, 4]⟩]
theorem fours_ok : ∀ q ∈ fours, BookOk q.p q.n q.rows ∧ LotOk q.n q.away := fun q hq => by
  have h : q = ⟨5, 4, rgR, [0, 1]⟩ ∨ q = ⟨5, 4, rgR, [0, 1, 2]⟩ ∨ q = ⟨2, 5, rwR, [0, 1, 2]⟩ ∨ q = ⟨2, 5, rwR, [1, 2, 4]⟩ := by simpa [fours] using hq
  rcases h with rfl | rfl | rfl | rfl
  · exact ⟨rg_ok, by unfold LotOk; decide⟩
  · exact ⟨rg_ok, by unfold LotOk; decide⟩
  · exact ⟨rw_ok, by unfold LotOk; decide⟩
  · exact ⟨rw_ok, by unfold LotOk; decide⟩
theorem self_ties {p : Int} {n : Nat} {rows : List (List Int)} (h : BookOk p n rows) : TiesOk p n rows rows := ⟨by have := h.few; omega, h.sum, fun x hx => inSp_row hx⟩
theorem ok_law {f fF : Addr} {fd fdF : FuncData} (B : Bl mg) (F : FnP K "law" 84 [] f fd) (FF : FnP K "_law_feed" 61 [] fF fdF) (hmF : mg "_law_feed" = some (.ref fF)) (C__law_is_fine : Cal P w K mg base "_law_is_fine" 13 [] F__law_is_fine) (C__law_book : Cal P w K mg base "_law_book" 4 [] F__law_book) (C__law_mixed : Cal P w K mg base "_law_mixed" 2 [] F__law_mixed) (C__law_lot : Cal P w K mg base "_law_lot" 2 [] F__law_lot) (C__law_wide : Cal P w K mg base "_law_wide" 10 [] F__law_wide) : FnOk P w K mg base CX0 (13 + 1) f fd ["_law_script"] (spLaw K) := by
  have Sc : FnScope ["_law_script", "_law_feed_here", "_law_ring", "_law_row_here", "_law_base", "_law_away", "_law_lap", "_law_turn", "_law_wide_here"] ["_law_script"] (defScope (tp 84)) := ⟨rfl, rfl, rfl, by decide +kernel, rfl, by decide +kernel, by decide +kernel⟩
  have bF : Binds K fdF ["_law_script"] [] := FF.bindsN fun _ _ _ _ _ _ us hl => match us, hl with | [_], _ => rfl
  refine F.ok Sc (fun vs H Q E h => ?_) (fun cdv A outer s H vs Q E hr h => ⟨_, PSs.nox (pss_cons (ps_set (i := 1) Sc.nd rfl (Or.inl rfl) (pe_call (ok_feed B FF) (hr.mono (by decide)) rfl hmF FF.kp bF .nil pass0 (pa_cons (pv 0) pa_nil))) pss_w), ?_⟩)
  · obtain ⟨a, ns, rfl, _⟩ := h; rfl
  obtain ⟨a, ns, rfl, hS, hQ⟩ := h
  refine ⟨_, rfl, a, ns, rfl, hS, fun f1 c cells H' g1 g2 g3 => ?_⟩
  have ok : WOk ⟨[f1], [f1], [f1]⟩ H' := ⟨fun l hl => by rw [List.mem_singleton.mp hl, g1]; exact fun z => (nomatch z), fun l h => h, fun l h => h, fun l hl => by
    rw [List.mem_singleton.mp hl]
    exact ⟨c, cells, 0, 0, 0, g1, fun z => g2 (List.mem_singleton.mp z), g3⟩⟩
  have none_ : ∀ (i : Nat) (s : S), (none :: some .fee :: List.replicate 7 none : DS)[i]? = some (some s) → i = 1 ∧ s = .fee := fun i s h => by
    match i, h with
    | 0, h => cases h
    | 1, h => cases h; exact ⟨rfl, rfl⟩
    | i + 2, h =>
      have h : (List.replicate 7 (none : Option S))[i]? = some (some s) := h
      rw [List.getElem?_replicate] at h
      split at h <;> cases h
  dsimp only [gName]
  have at_ : At ⟨[f1], [f1], [f1]⟩ H' (hid [f1] H') ⟨[f1], [f1], [f1]⟩ H' [some (V.ref a), some (V.ref f1), none, none, none, none, none, none, none] (none :: some .fee :: List.replicate 7 none) := by
    refine ⟨rfl, .rfl' ok, .rfl', ⟨rfl, fun i s h => ?_, fun i j x y v hij h1 h2 => ?_⟩⟩
    · obtain ⟨rfl, rfl⟩ := none_ i s h
      exact ⟨.ref f1, rfl, f1, rfl, List.mem_singleton.mpr rfl⟩
    · cases (none_ i _ h1).2
  have z_ : EndOk ⟨[f1], [f1], [f1]⟩ H' (hid [f1] H') { nx := fun _ => False, rt := fun d => d = .bool true } { nx := fun _ H' => Q .non H', rt := Q } := by
    refine ⟨fun _ _ _ _ z _ => z.elim, fun v d W1 H1 hd _ r => ?_, fun _ _ _ _ z _ => z.elim, fun _ _ _ _ z _ => z.elim⟩
    subst hd
    cases r
    exact hQ _
  show wSs _ _ { nx := fun _ H' => Q .non H', rt := Q } [some (V.ref a), some (V.ref f1), none, none, none, none, none, none, none] H'
  refine (fun h => dss_run _ _ _ _ at_ z_ h) ?_
  show DSs _ _ [none, some .fee, none, none, none, none, none, none, none] _
  refine ds_cons ?_
  refine ds_pair 2 3 ?_ ?_ ?_ (hi := ?_) (hj := ?_) (hx := ?_) (hy := ?_) (hf1 := ?_) (hf2 := ?_) (hw := ?_) (hs := ?_) (hs1 := ?_) (hs2 := ?_)
  rotate_left 3
  · rfl
  · rfl
  · exact Or.inl rfl
  · exact Or.inl rfl
  · exact Or.inr rfl
  · exact Or.inr rfl
  · kernel_rfl
  · kernel_rfl
  · exact star_two _
  · exact star_one _
  · rfl
  · exact Sc.nd
  iterate 120 first | ((with_reducible show DDs _ (.Constant _ _ _ :: _) _ _); refine dd_consI ?_) | ((with_reducible show DDs _ (.Tuple _ _ _ :: _) _ _); refine dd_consT ?_) | ((with_reducible show DE _ (.Tuple _ _ _) _ _); refine de_tuple ?_) | ((with_reducible show DDs _ [] _ _); refine dd_nil ?_) | ((with_reducible show DV _ _ _ _); refine dv_sh ?_) | ((with_reducible show And _ _); refine ⟨Nat.le_of_ble_eq_true rfl, ?_⟩) | skip
  show DSs _ _ [none, some .fee, some (.sh (bkD 5 4 rgR)), some (.sh (bkD 2 5 rwR)), none, none, none, none, none] _
  refine ds_mid (fun δ => ∃ a b, δ = [none, some .fee, some (.sh (bkD 5 4 rgR)), some (.sh (bkD 2 5 rwR)), a, b, none, none, none]) (for2 4 5 fours (fun q => bkD q.p q.n q.rows) (fun q => tN q.away) (fun i δ => ∃ a b, δ = [none, some .fee, some (.sh (bkD 5 4 rgR)), some (.sh (bkD 2 5 rwR)), a, b, none, none, none]) PassesOwn.never rfl Sc.nd (dis_listP 4 5 (de_lst (dl_list ?_)))) fun δ' hJ => ?_
  · iterate 60 first | ((with_reducible show DDs _ (.Constant _ _ _ :: _) _ _); refine dd_consI ?_) | ((with_reducible show DDs _ (.Tuple _ _ _ :: _) _ _); refine dd_consT ?_) | ((with_reducible show DE _ (.Tuple _ _ _) _ _); refine de_tuple ?_) | ((with_reducible show DDs _ [] _ _); refine dd_nil ?_) | ((with_reducible show DDs _ (.Name "_law_ring" _ :: _) _ _); refine dd_cons (de_var 2 rfl ?_)) | ((with_reducible show DDs _ (.Name _ _ :: _) _ _); refine dd_cons (de_var 3 rfl ?_)) | ((with_reducible show And _ _); refine ⟨Nat.le_of_ble_eq_true rfl, ?_⟩) | skip
    refine ⟨fours.map fun q => (bkD q.p q.n q.rows, tN q.away), rfl, by rw [List.map_map]; rfl, ⟨none, none, rfl⟩, fun i q δ' hi hI => ?_, fun δ' hI => hI⟩
    obtain ⟨a, b, rfl⟩ := hI
    obtain ⟨hb, hl⟩ := fours_ok q (List.mem_of_getElem? hi)
    refine ds_one (ds_if (dt_not (dt_val (de_callR C__law_is_fine hr (da_fee 1 rfl (da_cons (de_var 4 rfl (da_cons (de_ix (db_of (de_var 4 rfl ?_)))))))))))
    refine ⟨_, .inr rfl, de_int ⟨2, _, rfl, rfl, da_cons (de_var 5 rfl (da_nil ?_))⟩⟩
    exact ⟨q.p, q.n, q.rows, q.rows, q.away, rfl, hb, self_ties hb, by have := hb.few; omega, hl, true, rfl, ino rfl (ds_nil ⟨_, _, rfl⟩)⟩
  obtain ⟨a, b, rfl⟩ := hJ
  refine ds_mid (fun δ => ∃ a b c d, δ = [none, some .fee, some (.sh (bkD 5 4 rgR)), some (.sh (bkD 2 5 rwR)), a, b, c, d, none]) (for1 6 (List.range 4) (fun i => .int (i : Int)) (fun i δ => ∃ a b c d, δ = [none, some .fee, some (.sh (bkD 5 4 rgR)), some (.sh (bkD 2 5 rwR)), a, b, c, d, none]) PassesOwn.never rfl Sc.nd (dis_rngN 6 B.range (de_int ⟨4, rfl, by decide, rfl, ⟨a, b, none, none, rfl⟩, fun i y δ' hi hI => ?_, fun δ' hI => hI⟩))) fun δ' hJ => ?_
  · obtain ⟨a, b, c, d, rfl⟩ := hI
    refine ds_cons (ds_set 4 Sc.nd (dv_sh (de_callR C__law_book hr (da_fee 1 rfl (da_cons (de_int (da_nil ⟨10, rfl, by decide, by decide, fun p n rows hb => ?_⟩)))))))
    have hn := hb.n2
    refine ds_mid (fun δ => ∃ b c d, δ = [none, some .fee, some (.sh (bkD 5 4 rgR)), some (.sh (bkD 2 5 rwR)), some (.sh (bkD p n rows)), b, c, d, none]) (for1 7 (List.range 2) (fun i => .int (i : Int)) (fun i δ => ∃ b c d, δ = [none, some .fee, some (.sh (bkD 5 4 rgR)), some (.sh (bkD 2 5 rwR)), some (.sh (bkD p n rows)), b, c, d, none]) PassesOwn.never rfl Sc.nd (dis_rngN 7 B.range (de_int ⟨2, rfl, by decide, rfl, ⟨b, some (.sh (.int (y : Int))), d, rfl⟩, fun i z δ' hi hI => ?_, fun δ' hI => hI⟩))) fun δ' hJ => ?_
    · obtain ⟨b, c, d, rfl⟩ := hI
      refine ds_one (ds_if (dt_not (dt_val (de_callR C__law_is_fine hr (da_fee 1 rfl (da_cons (de_var 4 rfl (da_cons (de_callR C__law_mixed hr ?_)))))))))
      refine da_fee 1 rfl (da_cons (de_var 4 rfl (da_nil ⟨p, n, rows, rfl, hb, fun ties hT htl => da_cons (de_callR C__law_lot hr (da_fee 1 rfl (da_cons (de_ix (db_of (de_var 4 rfl ?_))))))⟩)))
      refine ⟨_, .inr rfl, de_int ⟨1, _, rfl, rfl, da_nil ?_⟩⟩
      exact ⟨n, rfl, hn, fun l hl => da_nil ⟨p, n, rows, ties, l, rfl, hb, hT, htl, hl, true, rfl, ino rfl (ds_nil ⟨_, _, _, rfl⟩)⟩⟩
    · obtain ⟨b, c, d, rfl⟩ := hJ
      refine ds_one (ds_if (dt_not (dt_val (de_callR C__law_is_fine hr (da_fee 1 rfl (da_cons (de_var 4 rfl (da_cons (de_ix (db_of (de_var 4 rfl ?_)))))))))))
      refine ⟨_, .inr rfl, de_int ⟨2, _, rfl, rfl, da_cons (de_callR C__law_lot hr (da_fee 1 rfl (da_cons (de_ix (db_of (de_var 4 rfl ?_))))))⟩⟩
      refine ⟨_, .inr rfl, de_int ⟨1, _, rfl, rfl, da_nil ?_⟩⟩
      exact ⟨n, rfl, hn, fun l hl => da_nil ⟨p, n, rows, rows, l, rfl, hb, self_ties hb, by have := hb.few; omega, hl, true, rfl, ino rfl (ds_nil ⟨_, _, _, _, rfl⟩)⟩⟩
  obtain ⟨a, b, c, d, rfl⟩ := hJ
  refine ds_cons (ds_set 8 Sc.nd (dv_sh (de_callR C__law_wide hr (da_fee 1 rfl (da_nil ⟨rfl, fun p rows hb => ?_⟩)))))
  refine ds_one (ds_retD (de_and (de_cmp (dc_notN (db_of (de_var 8 rfl ⟨true, rfl, iy rfl ?_⟩))))))
  refine de_one (de_callR C__law_is_fine hr (da_fee 1 rfl (da_cons (de_var 8 rfl (da_cons (de_ix (db_of (de_var 8 rfl ?_))))))))
  refine ⟨_, .inr rfl, de_int ⟨2, _, rfl, rfl, da_cons (de_callR C__law_lot hr (da_fee 1 rfl (da_cons (de_int (da_nil ?_)))))⟩⟩
  refine ⟨12, rfl, by decide, fun l hl => da_nil ?_⟩
  exact ⟨p, 12, rows, rows, l, rfl, hb, self_ties hb, by have := hb.few; omega, hl, rfl⟩
end
end Dt
set_option maxHeartbeats 0
namespace HdK
open PySem PySem.Spec PyProof.Rows L2
def tp (i : Nat) : Stmt := PySem.Challenge.pw_mendfew_k41_whole_goings_in_any_order.main.body.getD i (.Pass ⟨0, 0, 0, 0⟩)
def mkD (x : Str) (i : Nat) (ds : List He.Dv) : He.DefD := ⟨(x, none), x, x, defArgs (tp i), defBody (tp i), defScope (tp i), ds, []⟩
def fn : List He.DefD := [mkD "is_integer" 3 [], mkD "is_number" 4 [], mkD "is_prime" 5 [], mkD "is_index" 6 [], mkD "is_tuple_of" 7 [], mkD "are_rests" 8 [], mkD "is_sum_of" 9 [], mkD "is_size" 10 [], mkD "are_ascending" 11 [], mkD "sums_fault" 13 [], mkD "book_fault" 14 [], mkD "is_lot_of" 15 [], mkD "rest_of" 16 [], mkD "power_at" 18 [], mkD "lessened_row" 19 [], mkD "led_row" 20 [], mkD "reduced_by" 21 [], mkD "lead_of" 22 [], mkD "kept_row" 23 [], mkD "null_by" 24 [], mkD "cut_rows" 25 [], mkD "sums_in" 27 [], mkD "words_in" 28 [], mkD "places_in" 30 [], mkD "mended_at_once" 31 [], mkD "goings_by" 32 [], mkD "places_but" 34 [], mkD "row_put_back" 35 [], mkD "rows_with_ahead" 36 [], mkD "alone_pairs" 37 [], mkD "words_within" 38 [], mkD "entries_by" 39 [], mkD "want" 45 [.int (-1)], mkD "want_book" 46 [.str "book"], mkD "want_lot" 47 [.str "lot"], mkD "want_lost" 49 [], mkD "are_goings_sums" 51 [], mkD "want_goings" 52 [], mkD "goings" 53 [], mkD "left_by" 54 [], mkD "is_mended_by" 55 [], mkD "side_by_side" 57 [], mkD "loss_paper" 59 [], mkD "_law_feed" 61 [], mkD "_law_pick" 62 [], mkD "_law_any" 63 [], mkD "_law_row" 64 [], mkD "_law_some" 65 [], mkD "_law_book" 66 [], mkD "_law_lot" 67 [], mkD "_law_rank" 68 [], mkD "_law_less" 69 [], mkD "_law_cut" 70 [], mkD "_law_places" 71 [], mkD "_law_goings" 72 [], mkD "_law_mixed" 73 [], mkD "_law_is_known" 74 [], mkD "_law_back" 75 [], mkD "_law_is_row" 76 [], mkD "_law_is_sum" 77 [], mkD "_law_same" 78 [], mkD "_law_wide" 79 [], mkD "_law_one_by_one" 80 [], mkD "_law_is_told" 81 [], mkD "_law_is_fine" 82 [], mkD "_law_is_by_papers" 83 [], mkD "law" 84 []]
def fa : List He.Fa := [.glo "is_integer", .glo "is_number", .glo "is_prime", .glo "is_index", .glo "is_tuple_of", .glo "are_rests", .glo "is_sum_of", .glo "is_size", .glo "are_ascending", .glo "sums_fault", .glo "book_fault", .glo "is_lot_of", .glo "rest_of", .glo "power_at", .glo "lessened_row", .glo "led_row", .glo "reduced_by", .glo "lead_of", .glo "kept_row", .glo "null_by", .glo "cut_rows", .glo "sums_in", .glo "words_in", .glo "places_in", .glo "mended_at_once", .glo "goings_by", .glo "places_but", .glo "row_put_back", .glo "rows_with_ahead", .glo "alone_pairs", .glo "words_within", .glo "entries_by", .glo "want", .glo "want_book", .glo "want_lot", .glo "want_lost", .glo "are_goings_sums", .glo "want_goings", .glo "goings", .glo "left_by", .glo "is_mended_by", .glo "side_by_side", .glo "loss_paper", .glo "_law_feed", .glo "_law_pick", .glo "_law_any", .glo "_law_row", .glo "_law_some", .glo "_law_book", .glo "_law_lot", .glo "_law_rank", .glo "_law_less", .glo "_law_cut", .glo "_law_places", .glo "_law_goings", .glo "_law_mixed", .glo "_law_is_known", .glo "_law_back", .glo "_law_is_row", .glo "_law_is_sum", .glo "_law_same", .glo "_law_wide", .glo "_law_one_by_one", .glo "_law_is_told", .glo "_law_is_fine", .glo "_law_is_by_papers", .glo "law", .free "isinstance", .free "int", .free "bool", .free "tuple", .free "list", .free "str", .free "all", .free "any", .free "sum", .free "zip", .free "enumerate", .free "range", .free "len", .free "sorted", .free "set", .free "min", .int "TOP" 1000000, .int "MOST_SIZE" 100]
def loose0 : List Str := ["TOP", "MOST_SIZE", "is_integer", "is_number", "is_prime", "is_index", "is_tuple_of", "are_rests", "is_sum_of", "is_size", "are_ascending", "sums_fault", "book_fault", "is_lot_of", "rest_of", "power_at", "lessened_row", "led_row", "reduced_by", "lead_of"]
def loose1 : List Str := ["kept_row", "null_by", "cut_rows", "sums_in", "words_in", "places_in", "mended_at_once", "goings_by", "places_but", "row_put_back", "rows_with_ahead", "alone_pairs", "words_within", "entries_by", "MendError", "BookError", "NotUsable", "want", "want_book", "want_lot"]
def loose2 : List Str := ["want_lost", "are_goings_sums", "want_goings", "goings", "left_by", "is_mended_by", "side_by_side", "loss_paper", "_law_feed", "_law_pick", "_law_any", "_law_row", "_law_some", "_law_book", "_law_lot", "_law_rank", "_law_less", "_law_cut", "_law_places", "_law_goings"]
def loose3 : List Str := ["_law_mixed", "_law_is_known", "_law_back", "_law_is_row", "_law_is_sum", "_law_same", "_law_wide", "_law_one_by_one", "_law_is_told", "_law_is_fine", "_law_is_by_papers"]
def loose : List Str := loose0 ++ loose1 ++ loose2 ++ loose3
abbrev R : PySem.W.OpenRow := PySem.W.OpenLaw.row PySem.Challenge.rw_mendfew_k41_whole_goings_in_any_order
abbrev hk : PySem.W.Hook := He.hookD 4 fa fn
def ob (s : PySem.W.SharedT) : He.AlD := He.obsDG 4 fa fn (HandSHeadRun.getT s)
theorem ob_eq (s : PySem.W.SharedT) : ob s = hk.obs s.abs := He.obsDG_eq (HandSHeadRun.getT_eq s)
theorem run (w : World) : HandSHeadRun.RunEq R (PySem.W.view R.prog [84]) hk ob 3000 loose w := by
  intro os
  kernel_rfl
end HdK
namespace Dt
open PySem PySem.Spec L2
section
open He
theorem mkDef {K : PySem.W.Frag} {h : Heap} {mg : Str → Option Value} (X : K.In h) (G : h.Ns mainGlobals mg) (c : He.SaysD HdK.fa HdK.fn K) {x : Str} {i : Nat} {ds : List He.Dv} (j : Nat) (h1 : HdK.fn[j]? = some (HdK.mkD x i ds)) (h2 : HdK.fa[j]? = some (.glo x)) : Def K mg x i (ds.map (He.Dv.v K)) := by
  obtain ⟨fd, F⟩ := c.def_ j h1
  exact ⟨_, fd, F, He.glo_ok X G (c.fact j h2)⟩
theorem facts {P : Program} {w : World} {K : PySem.W.Frag} {h : Heap} {mg : Str → Option Value} {f : Addr} (X : K.In h) (G : h.Ns mainGlobals mg) (hfa : mg ("law" : Str) = some (.ref f)) (c : He.SaysD HdK.fa HdK.fn K) :
    ∃ fd : FuncData, (∀ (s : Shared) (v : Value), BindsTo s fd ⟨[v], []⟩ [("_law_script", v)]) ∧ ∀ base : Heap, FnOk P w K mg base CX0 (13 + 1) f fd ["_law_script"] (spLaw K) := by
  have B : Bl mg := ⟨He.free_ok X G (c.fact 67 (f := .free "isinstance") rfl),
    He.free_ok X G (c.fact 68 (f := .free "int") rfl),
    He.free_ok X G (c.fact 69 (f := .free "bool") rfl),
    He.free_ok X G (c.fact 70 (f := .free "tuple") rfl),
    He.free_ok X G (c.fact 71 (f := .free "list") rfl),
    He.free_ok X G (c.fact 72 (f := .free "str") rfl),
    He.free_ok X G (c.fact 73 (f := .free "all") rfl),
    He.free_ok X G (c.fact 74 (f := .free "any") rfl),
    He.free_ok X G (c.fact 75 (f := .free "sum") rfl),
    He.free_ok X G (c.fact 76 (f := .free "zip") rfl),
    He.free_ok X G (c.fact 77 (f := .free "enumerate") rfl),
    He.free_ok X G (c.fact 78 (f := .free "range") rfl),
    He.free_ok X G (c.fact 79 (f := .free "len") rfl),
    He.free_ok X G (c.fact 80 (f := .free "sorted") rfl),
    He.free_ok X G (c.fact 81 (f := .free "set") rfl),
    He.free_ok X G (c.fact 82 (f := .free "min") rfl),
    He.int_ok X G (c.fact 83 (f := .int "TOP" 1000000) rfl),
    He.int_ok X G (c.fact 84 (f := .int "MOST_SIZE" 100) rfl)⟩
  have D_is_integer : Def K mg "is_integer" 3 [] := mkDef X G c (ds := []) 0 rfl rfl
  have D_is_number : Def K mg "is_number" 4 [] := mkDef X G c (ds := []) 1 rfl rfl
  have D_is_prime : Def K mg "is_prime" 5 [] := mkDef X G c (ds := []) 2 rfl rfl
  have D_is_index : Def K mg "is_index" 6 [] := mkDef X G c (ds := []) 3 rfl rfl
  have D_is_tuple_of : Def K mg "is_tuple_of" 7 [] := mkDef X G c (ds := []) 4 rfl rfl
  have D_are_rests : Def K mg "are_rests" 8 [] := mkDef X G c (ds := []) 5 rfl rfl
  have D_is_sum_of : Def K mg "is_sum_of" 9 [] := mkDef X G c (ds := []) 6 rfl rfl
  have D_is_size : Def K mg "is_size" 10 [] := mkDef X G c (ds := []) 7 rfl rfl
  have D_are_ascending : Def K mg "are_ascending" 11 [] := mkDef X G c (ds := []) 8 rfl rfl
  have D_sums_fault : Def K mg "sums_fault" 13 [] := mkDef X G c (ds := []) 9 rfl rfl
  have D_book_fault : Def K mg "book_fault" 14 [] := mkDef X G c (ds := []) 10 rfl rfl
  have D_is_lot_of : Def K mg "is_lot_of" 15 [] := mkDef X G c (ds := []) 11 rfl rfl
  have D_rest_of : Def K mg "rest_of" 16 [] := mkDef X G c (ds := []) 12 rfl rfl
  have D_power_at : Def K mg "power_at" 18 [] := mkDef X G c (ds := []) 13 rfl rfl
  have D_lessened_row : Def K mg "lessened_row" 19 [] := mkDef X G c (ds := []) 14 rfl rfl
  have D_led_row : Def K mg "led_row" 20 [] := mkDef X G c (ds := []) 15 rfl rfl
  have D_reduced_by : Def K mg "reduced_by" 21 [] := mkDef X G c (ds := []) 16 rfl rfl
  have D_lead_of : Def K mg "lead_of" 22 [] := mkDef X G c (ds := []) 17 rfl rfl
  have D_kept_row : Def K mg "kept_row" 23 [] := mkDef X G c (ds := []) 18 rfl rfl
  have D_null_by : Def K mg "null_by" 24 [] := mkDef X G c (ds := []) 19 rfl rfl
  have D_cut_rows : Def K mg "cut_rows" 25 [] := mkDef X G c (ds := []) 20 rfl rfl
  have D_sums_in : Def K mg "sums_in" 27 [] := mkDef X G c (ds := []) 21 rfl rfl
  have D_words_in : Def K mg "words_in" 28 [] := mkDef X G c (ds := []) 22 rfl rfl
  have D_places_in : Def K mg "places_in" 30 [] := mkDef X G c (ds := []) 23 rfl rfl
  have D_mended_at_once : Def K mg "mended_at_once" 31 [] := mkDef X G c (ds := []) 24 rfl rfl
  have D_goings_by : Def K mg "goings_by" 32 [] := mkDef X G c (ds := []) 25 rfl rfl
  have D_places_but : Def K mg "places_but" 34 [] := mkDef X G c (ds := []) 26 rfl rfl
  have D_row_put_back : Def K mg "row_put_back" 35 [] := mkDef X G c (ds := []) 27 rfl rfl
  have D_rows_with_ahead : Def K mg "rows_with_ahead" 36 [] := mkDef X G c (ds := []) 28 rfl rfl
  have D_alone_pairs : Def K mg "alone_pairs" 37 [] := mkDef X G c (ds := []) 29 rfl rfl
  have D_words_within : Def K mg "words_within" 38 [] := mkDef X G c (ds := []) 30 rfl rfl
  have D_entries_by : Def K mg "entries_by" 39 [] := mkDef X G c (ds := []) 31 rfl rfl
  have D_want : Def K mg "want" 45 [.int (-1)] := mkDef X G c (ds := [.int (-1)]) 32 rfl rfl
  have D_want_book : Def K mg "want_book" 46 [.str "book"] := mkDef X G c (ds := [.str "book"]) 33 rfl rfl
  have D_want_lot : Def K mg "want_lot" 47 [.str "lot"] := mkDef X G c (ds := [.str "lot"]) 34 rfl rfl
  have D_want_lost : Def K mg "want_lost" 49 [] := mkDef X G c (ds := []) 35 rfl rfl
  have D_are_goings_sums : Def K mg "are_goings_sums" 51 [] := mkDef X G c (ds := []) 36 rfl rfl
  have D_want_goings : Def K mg "want_goings" 52 [] := mkDef X G c (ds := []) 37 rfl rfl
  have D_goings : Def K mg "goings" 53 [] := mkDef X G c (ds := []) 38 rfl rfl
  have D_left_by : Def K mg "left_by" 54 [] := mkDef X G c (ds := []) 39 rfl rfl
  have D_is_mended_by : Def K mg "is_mended_by" 55 [] := mkDef X G c (ds := []) 40 rfl rfl
  have D_side_by_side : Def K mg "side_by_side" 57 [] := mkDef X G c (ds := []) 41 rfl rfl
  have D_loss_paper : Def K mg "loss_paper" 59 [] := mkDef X G c (ds := []) 42 rfl rfl
  have D__law_feed : Def K mg "_law_feed" 61 [] := mkDef X G c (ds := []) 43 rfl rfl
  have D__law_pick : Def K mg "_law_pick" 62 [] := mkDef X G c (ds := []) 44 rfl rfl
  have D__law_any : Def K mg "_law_any" 63 [] := mkDef X G c (ds := []) 45 rfl rfl
  have D__law_row : Def K mg "_law_row" 64 [] := mkDef X G c (ds := []) 46 rfl rfl
  have D__law_some : Def K mg "_law_some" 65 [] := mkDef X G c (ds := []) 47 rfl rfl
  have D__law_book : Def K mg "_law_book" 66 [] := mkDef X G c (ds := []) 48 rfl rfl
  have D__law_lot : Def K mg "_law_lot" 67 [] := mkDef X G c (ds := []) 49 rfl rfl
  have D__law_rank : Def K mg "_law_rank" 68 [] := mkDef X G c (ds := []) 50 rfl rfl
  have D__law_less : Def K mg "_law_less" 69 [] := mkDef X G c (ds := []) 51 rfl rfl
  have D__law_cut : Def K mg "_law_cut" 70 [] := mkDef X G c (ds := []) 52 rfl rfl
  have D__law_places : Def K mg "_law_places" 71 [] := mkDef X G c (ds := []) 53 rfl rfl
  have D__law_goings : Def K mg "_law_goings" 72 [] := mkDef X G c (ds := []) 54 rfl rfl
  have D__law_mixed : Def K mg "_law_mixed" 73 [] := mkDef X G c (ds := []) 55 rfl rfl
  have D__law_is_known : Def K mg "_law_is_known" 74 [] := mkDef X G c (ds := []) 56 rfl rfl
  have D__law_back : Def K mg "_law_back" 75 [] := mkDef X G c (ds := []) 57 rfl rfl
  have D__law_is_row : Def K mg "_law_is_row" 76 [] := mkDef X G c (ds := []) 58 rfl rfl
  have D__law_is_sum : Def K mg "_law_is_sum" 77 [] := mkDef X G c (ds := []) 59 rfl rfl
  have D__law_same : Def K mg "_law_same" 78 [] := mkDef X G c (ds := []) 60 rfl rfl
  have D__law_wide : Def K mg "_law_wide" 79 [] := mkDef X G c (ds := []) 61 rfl rfl
  have D__law_one_by_one : Def K mg "_law_one_by_one" 80 [] := mkDef X G c (ds := []) 62 rfl rfl
  have D__law_is_told : Def K mg "_law_is_told" 81 [] := mkDef X G c (ds := []) 63 rfl rfl
  have D__law_is_fine : Def K mg "_law_is_fine" 82 [] := mkDef X G c (ds := []) 64 rfl rfl
  have D__law_is_by_papers : Def K mg "_law_is_by_papers" 83 [] := mkDef X G c (ds := []) 65 rfl rfl
  obtain ⟨fF, fdF, FF, hmF⟩ := D__law_feed
  obtain ⟨fd, F⟩ := c.def_ 66 (d := HdK.mkD "law" 84 []) rfl
  have e := hfa.symm.trans (He.glo_ok X G (c.fact 66 (f := .glo "law") rfl))
  cases e
  have b := FunD.bindsA (ps := ["_law_script"]) F fun _ _ _ _ _ _ us hl => match us, hl with | [_], _ => rfl
  refine ⟨fd, fun s v => b s [v] rfl, fun base => ?_⟩
  have C_is_integer : Cal P w K mg base "is_integer" 1 [] F_is_integer := c_is_integer B D_is_integer
  have C_is_number : Cal P w K mg base "is_number" 2 [] F_is_number := c_is_number B D_is_number C_is_integer
  have C_is_prime : Cal P w K mg base "is_prime" 3 [] F_is_prime := c_is_prime B D_is_prime C_is_number
  have C_is_index : Cal P w K mg base "is_index" 3 [] F_is_index := c_is_index B D_is_index C_is_number
  have C_is_tuple_of : Cal P w K mg base "is_tuple_of" 1 [] F_is_tuple_of := c_is_tuple_of B D_is_tuple_of
  have C_are_rests : Cal P w K mg base "are_rests" 4 [] F_are_rests := c_are_rests B D_are_rests C_is_tuple_of C_is_index
  have C_is_sum_of : Cal P w K mg base "is_sum_of" 5 [] F_is_sum_of := c_is_sum_of B D_is_sum_of C_are_rests
  have C_is_size : Cal P w K mg base "is_size" 3 [] F_is_size := c_is_size B D_is_size C_is_number
  have C_are_ascending : Cal P w K mg base "are_ascending" 1 [] F_are_ascending := c_are_ascending B D_are_ascending
  have C_sums_fault : Cal P w K mg base "sums_fault" 6 [] F_sums_fault := c_sums_fault B D_sums_fault C_are_rests C_is_sum_of
  have C_book_fault : Cal P w K mg base "book_fault" 7 [] F_book_fault := c_book_fault B D_book_fault C_is_tuple_of C_is_prime C_sums_fault C_is_size
  have C_is_lot_of : Cal P w K mg base "is_lot_of" 4 [] F_is_lot_of := c_is_lot_of B D_is_lot_of C_is_index C_are_ascending
  have C_rest_of : Cal P w K mg base "rest_of" 1 [] F_rest_of := c_rest_of B D_rest_of
  have C_power_at : Cal P w K mg base "power_at" 1 [] F_power_at := c_power_at B D_power_at
  have C_lessened_row : Cal P w K mg base "lessened_row" 1 [] F_lessened_row := c_lessened_row B D_lessened_row
  have C_led_row : Cal P w K mg base "led_row" 2 [] F_led_row := c_led_row B D_led_row C_power_at
  have C_reduced_by : Cal P w K mg base "reduced_by" 3 [] F_reduced_by := c_reduced_by B D_reduced_by C_led_row C_lessened_row
  have C_lead_of : Cal P w K mg base "lead_of" 1 [] F_lead_of := c_lead_of B D_lead_of
  have C_cut_rows : Cal P w K mg base "cut_rows" 1 [] F_cut_rows := c_cut_rows B D_cut_rows
  have C_kept_row : Cal P w K mg base "kept_row" 1 [] F_kept_row := c_kept_row B D_kept_row
  have C_null_by : Cal P w K mg base "null_by" 4 [] F_null_by := c_null_by B D_null_by C_reduced_by C_lead_of C_kept_row
  have C_sums_in : Cal P w K mg base "sums_in" 4 [] F_sums_in := c_sums_in B D_sums_in C_reduced_by
  have C_words_in : Cal P w K mg base "words_in" 5 [] F_words_in := c_words_in B D_words_in C_null_by
  have C_places_in : Cal P w K mg base "places_in" 1 [] F_places_in := c_places_in B D_places_in
  have C_mended_at_once : Cal P w K mg base "mended_at_once" 1 [] F_mended_at_once := c_mended_at_once B D_mended_at_once
  have C_goings_by : Cal P w K mg base "goings_by" 2 [] F_goings_by := c_goings_by B D_goings_by C_places_in C_mended_at_once
  have C_places_but : Cal P w K mg base "places_but" 1 [] F_places_but := c_places_but B D_places_but
  have C_row_put_back : Cal P w K mg base "row_put_back" 1 [] F_row_put_back := c_row_put_back B D_row_put_back
  have C_rows_with_ahead : Cal P w K mg base "rows_with_ahead" 4 [] F_rows_with_ahead := c_rows_with_ahead B D_rows_with_ahead C_reduced_by C_cut_rows
  have C_alone_pairs : Cal P w K mg base "alone_pairs" 5 [] F_alone_pairs := c_alone_pairs B D_alone_pairs C_sums_in C_rows_with_ahead C_row_put_back
  have C_words_within : Cal P w K mg base "words_within" 6 [] F_words_within := c_words_within B D_words_within C_places_but C_words_in C_rows_with_ahead C_row_put_back
  have C_want : Cal P w K mg base "want" 1 [.int (-1)] F_want := c_want D_want
  have C_want_book : Cal P w K mg base "want_book" 8 [.str "book"] F_want_book := c_want_book B D_want_book C_want C_book_fault 0 _ (.inl ⟨rfl, rfl⟩)
  have C_want_book2 : Cal P w K mg base "want_book" 8 [] F_want_book2 := c_want_book B D_want_book C_want C_book_fault 1 _ (.inr ⟨rfl, rfl⟩)
  have C_want_lot : Cal P w K mg base "want_lot" 8 [] F_want_lot := c_want_lot B D_want_lot C_want C_is_lot_of
  have C_want_lost : Cal P w K mg base "want_lost" 9 [] F_want_lost := c_want_lost B D_want_lost C_want_book C_want_lot
  have C_are_goings_sums : Cal P w K mg base "are_goings_sums" 6 [] F_are_goings_sums := c_are_goings_sums B D_are_goings_sums C_is_sum_of C_words_in C_rest_of
  have C_want_goings : Cal P w K mg base "want_goings" 9 [] F_want_goings := c_want_goings B D_want_goings C_want_book C_want C_are_goings_sums C_want_lot
  have C_goings : Cal P w K mg base "goings" 10 [] F_goings := c_goings B D_goings C_want_goings C_goings_by
  have C_left_by : Cal P w K mg base "left_by" 10 [] F_left_by := c_left_by B D_left_by C_want_goings C_goings_by
  have C_is_mended_by : Cal P w K mg base "is_mended_by" 10 [] F_is_mended_by := c_is_mended_by B D_is_mended_by C_want_goings C_goings_by
  have C_entries_by : Cal P w K mg base "entries_by" 7 [] F_entries_by := c_entries_by B D_entries_by C_alone_pairs C_words_within
  have C_loss_paper : Cal P w K mg base "loss_paper" 10 [] F_loss_paper := c_loss_paper B D_loss_paper C_want_lost C_entries_by
  have C__law_less : Cal P w K mg base "_law_less" 1 [] F__law_less := c__law_less B D__law_less
  have C__law_rank : Cal P w K mg base "_law_rank" 2 [] F__law_rank := c__law_rank B D__law_rank C__law_less
  have C__law_cut : Cal P w K mg base "_law_cut" 1 [] F__law_cut := c__law_cut B D__law_cut
  have C__law_places : Cal P w K mg base "_law_places" 1 [] F__law_places := c__law_places B D__law_places
  have C__law_goings : Cal P w K mg base "_law_goings" 1 [] F__law_goings := c__law_goings B D__law_goings
  have C__law_is_known : Cal P w K mg base "_law_is_known" 3 [] F__law_is_known := c__law_is_known B D__law_is_known C__law_rank C__law_cut
  have C__law_back : Cal P w K mg base "_law_back" 4 [] F__law_back := c__law_back B D__law_back C__law_is_known
  have C__law_is_row : Cal P w K mg base "_law_is_row" 1 [] F__law_is_row := c__law_is_row B D__law_is_row
  have C__law_is_sum : Cal P w K mg base "_law_is_sum" 3 [] F__law_is_sum := c__law_is_sum B D__law_is_sum C__law_is_row C__law_rank
  have C__law_same : Cal P w K mg base "_law_same" 4 [] F__law_same := c_same B D__law_same 3
  have C__law_is_told : Cal P w K mg base "_law_is_told" 11 [] F__law_is_told := c__law_is_told B D__law_is_told C__law_same C_goings C_left_by C_is_mended_by
  have C__law_is_by_papers : Cal P w K mg base "_law_is_by_papers" 12 [] F__law_is_by_papers := c__law_is_by_papers B D__law_is_by_papers C_loss_paper C__law_is_sum C__law_is_told
  have C__law_pick : Cal P w K mg base "_law_pick" 1 [] F__law_pick := c__law_pick B D__law_pick
  have C__law_any : Cal P w K mg base "_law_any" 2 [] F__law_any := c__law_any B D__law_any C__law_pick
  have C__law_row : Cal P w K mg base "_law_row" 2 [] F__law_row := c__law_row B D__law_row C__law_pick
  have C__law_lot : Cal P w K mg base "_law_lot" 2 [] F__law_lot := c__law_lot B D__law_lot C__law_pick
  have C__law_one_by_one : Cal P w K mg base "_law_one_by_one" 3 [] F__law_one_by_one := c__law_one_by_one B D__law_one_by_one C__law_any
  have C__law_mixed : Cal P w K mg base "_law_mixed" 2 [] F__law_mixed := c__law_mixed B D__law_mixed C__law_pick
  have C__law_some : Cal P w K mg base "_law_some" 3 [] F__law_some := c__law_some B D__law_some C__law_pick C__law_row
  have C__law_book : Cal P w K mg base "_law_book" 4 [] F__law_book := c__law_book B D__law_book C__law_any C__law_pick C__law_some
  have C_side_by_side : Cal P w K mg base "side_by_side" 9 [] F_side_by_side := c_side_by_side B D_side_by_side C_want_book2 C_want C_is_size
  have C__law_wide : Cal P w K mg base "_law_wide" 10 [] F__law_wide := c__law_wide B D__law_wide C__law_any C__law_some C_side_by_side C__law_same
  have C__law_is_fine : Cal P w K mg base "_law_is_fine" 13 [] F__law_is_fine := c__law_is_fine B D__law_is_fine C__law_places C__law_goings C__law_is_told C__law_one_by_one C__law_back C__law_pick C_left_by C__law_same C__law_is_by_papers
  exact ok_law B F FF hmF C__law_is_fine C__law_book C__law_mixed C__law_lot C__law_wide
end

end Dt
open PySem PySem.W PySem.Calls PyProof.Rows
theorem PySem.Challenge.cw_mendfew_k41_whole_goings_in_any_order_holds : PySem.Challenge.rw_mendfew_k41_whole_goings_in_any_order.Holds := by
  w_on; o_law
  refine HandSHeadRun.head_any (r := HdK.R) (q := view HdK.R.prog [84]) (H := HdK.hk) (ob := HdK.ob) (M := 3000) (loose := HdK.loose) (d := HandSHeadRun.topDef HdK.R.prog 84) (kwd := []) HdK.ob_eq
    (by kernel_rfl) (fun s => by kernel_rfl) HdK.run (by kernel_rfl) (by kernel_rfl) (by kernel_rfl) (by rfl) (by first | assumption | decide +kernel) (by decide +kernel) ⟨rfl, rfl, rfl, rfl, rfl, by decide +kernel⟩ ?hw ?hc
  case hw => w_witness2
  case hc =>
    refine L2.walk_ofE (l := PySem.Challenge.rw_mendfew_k41_whole_goings_in_any_order) (n := 63) (k := 14) (x := "_law_script") (CX := L2.CX0) rfl (by decide) (by kernel_rfl) ⟨rfl, by decide, by decide⟩ ?F (fun _ _ _ _ z => z)
    intro w mg fa h Y G hmg0
    obtain ⟨K, KX, c⟩ := Y
    have hmg : mg ("law" : PySem.Str) = some (.ref fa) := by
      have e : (HandSHeadRun.topDef HdK.R.prog 84).name = ("law" : PySem.Str) := by kernel_rfl
      rw [← e]
      exact hmg0
    obtain ⟨fd, hb, hF⟩ := Dt.facts (P := (PySem.Challenge.rw_mendfew_k41_whole_goings_in_any_order).prog) (w := w) KX G hmg c
    exact ⟨K, fd, Dt.spLaw K, KX, hb, fun H a ns hl _ hS => ⟨a, ns, rfl, hS, fun _ => rfl⟩, fun base _ _ => hF base⟩
