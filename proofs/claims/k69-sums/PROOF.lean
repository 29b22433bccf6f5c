import PyProof.Rows.All
import Wide.All
import OpenK.AllK
import Wide.FinOn
import HandS.ForMost
import HandS.IsInst
import HandS.TupMul
import HandS.TupAny
import HandS.Star
import HandS.SortInts
import HandS.Style
import HandS.Zip
import HandS.SetFor
import HandS.Conv
import KE.KDictZip
import KE.GoesEnum
import PySem.Challenge.RW_polytopebench_k69_sums_of_permutations_j
set_option Elab.async false
set_option linter.all false
set_option maxRecDepth 100000
set_option maxHeartbeats 2000000
/-! DL: evaluation over plain data, with owned cells, over the hand layer. -/
namespace DL
open PySem PySem.Spec PyProof.Rows L2

/-! ### heaps that grow -/
def Ex (H H' : Hp) : Prop := ∀ a o, H a = some o → H' a = some o
theorem Ex.refl (H : Hp) : Ex H H := fun _ _ h => h
theorem Ex.trans {H H1 H2 : Hp} (a : Ex H H1) (b : Ex H1 H2) : Ex H H2 := fun x o h => b x o (a x o h)
theorem Ex.new {H : Hp} {p : Addr} {o : HO} (h : H p = none) : Ex H (upd H p o) := fun a u e => by
  rw [upd_ne (ne_of_none e h)]; exact e
theorem Ex.fresh {H H' : Hp} {p : Addr} (e : Ex H H') (h : H' p = none) : H p = none := by
  cases q : H p with
  | none => rfl
  | some o => rw [e p o q] at h; cases h
/-- a change at an address that H does not know -/
theorem Ex.mut {H H' : Hp} {p : Addr} {o : HO} (e : Ex H H') (h : H p = none) : Ex H (upd H' p o) := fun a u ha => by
  rw [upd_ne (ne_of_none ha h)]; exact e a u ha
theorem Ex.upd2 {G H : Hp} {p : Addr} {o : HO} (e : Ex G H) : Ex (upd G p o) (upd H p o) := fun a u ha => by
  by_cases q : a = p
  · subst q; rw [upd_same] at ha ⊢; exact ha
  · rw [upd_ne q] at ha ⊢; exact e a u ha

/-! ### data at a value -/
mutual
inductive Dt (G : Hp) : V → PyData → Prop where
  | non : Dt G .non .none
  | bl (b : Bool) : Dt G (.bl b) (.bool b)
  | int (i : Int) : Dt G (.int i) (.int i)
  | str (x : Str) : Dt G (.str x) (.str x)
  | lst {a : Addr} {xs : List V} {ds : List PyData} : G a = some (.lst xs) → DtAll G xs ds → Dt G (.ref a) (.list ds)
  | tup {a : Addr} {xs : List V} {ds : List PyData} : G a = some (.tup xs) → DtAll G xs ds → Dt G (.ref a) (.tuple ds)
inductive DtAll (G : Hp) : List V → List PyData → Prop where
  | nil : DtAll G [] []
  | cons {v : V} {vs : List V} {d : PyData} {ds : List PyData} : Dt G v d → DtAll G vs ds → DtAll G (v :: vs) (d :: ds)
end
mutual
theorem Dt.mono {G G' : Hp} (e : Ex G G') : ∀ {v : V} {d : PyData}, Dt G v d → Dt G' v d
  | _, _, .non => .non
  | _, _, .bl b => .bl b
  | _, _, .int i => .int i
  | _, _, .str x => .str x
  | _, _, .lst h k => .lst (e _ _ h) (DtAll.mono e k)
  | _, _, .tup h k => .tup (e _ _ h) (DtAll.mono e k)
theorem DtAll.mono {G G' : Hp} (e : Ex G G') : ∀ {vs : List V} {ds : List PyData}, DtAll G vs ds → DtAll G' vs ds
  | _, _, .nil => .nil
  | _, _, .cons h k => .cons (Dt.mono e h) (DtAll.mono e k)
end
mutual
theorem Dt.dp {K : PySem.W.Frag} {G : Hp} : ∀ {v : V} {d : PyData}, Dt G v d → Dp K G v d
  | _, _, .non => .non
  | _, _, .bl b => .bl b
  | _, _, .int i => .int i
  | _, _, .str x => .str x
  | _, _, .lst h k => .lst (SqL.of h) (DtAll.dp k)
  | _, _, .tup h k => .tup (SqT.of h) (DtAll.dp k)
theorem DtAll.dp {K : PySem.W.Frag} {G : Hp} : ∀ {vs : List V} {ds : List PyData}, DtAll G vs ds → DpAll K G vs ds
  | _, _, .nil => .nil
  | _, _, .cons h k => .cons (Dt.dp h) (DtAll.dp k)
end
theorem DtAll.length {G : Hp} : ∀ {vs : List V} {ds : List PyData}, DtAll G vs ds → vs.length = ds.length
  | _, _, .nil => rfl
  | _, _, .cons _ k => congrArg (· + 1) (DtAll.length k)
theorem DtAll.append {G : Hp} : ∀ {vs ws : List V} {ds es : List PyData}, DtAll G vs ds → DtAll G ws es → DtAll G (vs ++ ws) (ds ++ es)
  | _, _, _, _, .nil, k => k
  | _, _, _, _, .cons h k, q => .cons h (DtAll.append k q)
theorem DtAll.get {G : Hp} : ∀ {vs : List V} {ds : List PyData} {i : Nat} {d : PyData}, DtAll G vs ds → ds[i]? = some d → ∃ v, vs[i]? = some v ∧ Dt G v d
  | _, _, i, d, .nil, h => by simp at h
  | _, _, 0, d, .cons h k, e => by simp at e; subst e; exact ⟨_, rfl, h⟩
  | _, _, i + 1, d, .cons h k, e => by
    obtain ⟨v, a, b⟩ := DtAll.get (i := i) k (by simpa using e)
    exact ⟨v, by simpa using a, b⟩
theorem DtAll.get' {G : Hp} : ∀ {vs : List V} {ds : List PyData} {i : Nat} {v : V}, DtAll G vs ds → vs[i]? = some v → ∃ d, ds[i]? = some d ∧ Dt G v d
  | _, _, i, d, .nil, h => by simp at h
  | _, _, 0, d, .cons h k, e => by simp at e; subst e; exact ⟨_, rfl, h⟩
  | _, _, i + 1, d, .cons h k, e => by
    obtain ⟨v, a, b⟩ := DtAll.get' (i := i) k (by simpa using e)
    exact ⟨v, by simpa using a, b⟩
theorem DtAll.set {G : Hp} {v : V} {d : PyData} (h0 : Dt G v d) : ∀ {vs : List V} {ds : List PyData} (i : Nat), DtAll G vs ds → DtAll G (vs.set i v) (ds.set i d)
  | _, _, _, .nil => .nil
  | _, _, 0, .cons _ k => .cons h0 k
  | _, _, i + 1, .cons h k => .cons h (DtAll.set h0 i k)
theorem DtAll.take {G : Hp} : ∀ {vs : List V} {ds : List PyData} (n : Nat), DtAll G vs ds → DtAll G (vs.take n) (ds.take n)
  | _, _, 0, _ => .nil
  | _, _, n + 1, .nil => .nil
  | _, _, n + 1, .cons h k => .cons h (DtAll.take n k)
theorem DtAll.drop {G : Hp} : ∀ {vs : List V} {ds : List PyData} (n : Nat), DtAll G vs ds → DtAll G (vs.drop n) (ds.drop n)
  | _, _, 0, k => k
  | _, _, n + 1, .nil => .nil
  | _, _, n + 1, .cons h k => DtAll.drop n k
theorem DtAll.eraseIdx {G : Hp} : ∀ {vs : List V} {ds : List PyData} (n : Nat), DtAll G vs ds → DtAll G (vs.eraseIdx n) (ds.eraseIdx n)
  | _, _, _, .nil => .nil
  | _, _, 0, .cons h k => k
  | _, _, n + 1, .cons h k => .cons h (DtAll.eraseIdx n k)
theorem DtAll.replicate {G : Hp} {v : V} {d : PyData} (h : Dt G v d) : ∀ n, DtAll G (List.replicate n v) (List.replicate n d)
  | 0 => .nil
  | n + 1 => .cons h (DtAll.replicate h n)
theorem DtAll.rep {G : Hp} {vs : List V} {ds : List PyData} (h : DtAll G vs ds) : ∀ n, DtAll G (List.replicate n vs).flatten (List.replicate n ds).flatten
  | 0 => .nil
  | n + 1 => by
    rw [List.replicate_succ, List.replicate_succ, List.flatten_cons, List.flatten_cons]
    exact h.append (DtAll.rep h n)
theorem DtAll.ints {G : Hp} : ∀ {vs : List V} {ns : List Int}, DtAll G vs (ns.map PyData.int) → vs = ns.map V.int
  | _, [], .nil => rfl
  | _, n :: ns, .cons (.int _) k => congrArg (V.int n :: ·) (DtAll.ints k)
theorem DtAll.ofInts {G : Hp} : ∀ (ns : List Int), DtAll G (ns.map V.int) (ns.map PyData.int)
  | [] => .nil
  | n :: ns => .cons (.int n) (DtAll.ofInts ns)
theorem DtAll.bools {G : Hp} : ∀ {vs : List V} {ns : List Bool}, DtAll G vs (ns.map PyData.bool) → vs = ns.map V.bl
  | _, [], .nil => rfl
  | _, n :: ns, .cons (.bl _) k => congrArg (V.bl n :: ·) (DtAll.bools k)
/-- what a value is, by its data, where it is no object -/
def flatD : PyData → Option V
  | .none => some .non
  | .bool b => some (.bl b)
  | .int i => some (.int i)
  | .str x => some (.str x)
  | _ => none
theorem Dt.flat {G : Hp} {v w : V} {d : PyData} (h : Dt G v d) (e : flatD d = some w) : v = w := by
  cases h <;> simp_all [flatD]

/-! ### abstract values, cells, states -/
inductive SV where
  | d (x : PyData)
  | own (k : Nat)
  | ro (ns : List Int)
inductive Cell where
  | lst (ds : List PyData)
  | mat (rs : List (List PyData))
abbrev Cells := List (Option Cell)
abbrev Slots := List (Option SV)

inductive Rows (G H : Hp) : List Addr → List (List PyData) → Prop where
  | nil : Rows G H [] []
  | cons {b : Addr} {bs : List Addr} {vs : List V} {r : List PyData} {rs : List (List PyData)} : H b = some (.lst vs) → DtAll G vs r → Rows G H bs rs → Rows G H (b :: bs) (r :: rs)
theorem Rows.mono {G G' H H' : Hp} (e : Ex G G') : ∀ {bs : List Addr} {rs : List (List PyData)}, (∀ b ∈ bs, ∀ o, H b = some o → H' b = some o) → Rows G H bs rs → Rows G' H' bs rs
  | _, _, _, .nil => .nil
  | _, _, f, .cons h k r => .cons (f _ (by simp) _ h) (k.mono e) (Rows.mono e (fun b hb => f b (by simp [hb])) r)
theorem Rows.length {G H : Hp} : ∀ {bs : List Addr} {rs : List (List PyData)}, Rows G H bs rs → bs.length = rs.length
  | _, _, .nil => rfl
  | _, _, .cons _ _ r => congrArg (· + 1) (Rows.length r)
theorem Rows.live {G H : Hp} : ∀ {bs : List Addr} {rs : List (List PyData)}, Rows G H bs rs → ∀ b ∈ bs, ∃ vs, H b = some (.lst vs)
  | _, _, .nil, b, hb => by simp at hb
  | _, _, .cons h _ r, b, hb => by
    rcases List.mem_cons.mp hb with rfl | hb
    · exact ⟨_, h⟩
    · exact Rows.live r b hb
theorem Rows.get {G H : Hp} : ∀ {bs : List Addr} {rs : List (List PyData)} {i : Nat} {r : List PyData}, Rows G H bs rs → rs[i]? = some r → ∃ b vs, bs[i]? = some b ∧ H b = some (.lst vs) ∧ DtAll G vs r
  | _, _, i, r, .nil, e => by simp at e
  | _, _, 0, r, .cons h k _, e => by simp at e; subst e; exact ⟨_, _, rfl, h, k⟩
  | _, _, i + 1, r, .cons h k q, e => by
    obtain ⟨b, vs, a, c⟩ := Rows.get (i := i) q (by simpa using e)
    exact ⟨b, vs, by simpa using a, c⟩
theorem Rows.set {G H : Hp} {vs' : List V} {r' : List PyData} (k' : DtAll G vs' r') {bs : List Addr} {rs : List (List PyData)} (x : Rows G H bs rs) : ∀ {i : Nat} {b : Addr}, bs.Nodup → bs[i]? = some b → Rows G (upd H b (.lst vs')) bs (rs.set i r') := by
  induction x with
  | nil => intro i b _ e; simp at e
  | @cons b0 bs vs r rs h k q ih =>
    intro i b hn e
    rw [List.nodup_cons] at hn
    cases i with
    | zero =>
      simp at e; subst e
      refine .cons upd_same k' (q.mono (Ex.refl _) fun c hc o ho => ?_)
      have ne : c ≠ b0 := fun z => hn.1 (by rw [← z]; exact hc)
      rw [upd_ne ne]; exact ho
    | succ i =>
      have e' : bs[i]? = some b := by simpa using e
      have hm : b ∈ bs := List.mem_of_getElem? e'
      have ne : b0 ≠ b := fun z => hn.1 (by rw [z]; exact hm)
      refine .cons ?_ k (ih hn.2 e')
      rw [upd_ne ne]; exact h
def CellOk (G H : Hp) (as : List Addr) : Cell → Prop
  | .lst ds => ∃ a vs, as = [a] ∧ H a = some (.lst vs) ∧ DtAll G vs ds
  | .mat rs => ∃ a bs, as = a :: bs ∧ H a = some (.lst (bs.map V.ref)) ∧ Rows G H bs rs
theorem CellOk.mono {G G' H H' : Hp} {as : List Addr} {c : Cell} (e : Ex G G') (f : ∀ a ∈ as, ∀ o, H a = some o → H' a = some o) (h : CellOk G H as c) : CellOk G' H' as c := by
  cases c with
  | lst ds =>
    obtain ⟨a, vs, rfl, h1, h2⟩ := h
    exact ⟨a, vs, rfl, f a (by simp) _ h1, h2.mono e⟩
  | mat rs =>
    obtain ⟨a, bs, rfl, h1, h2⟩ := h
    exact ⟨a, bs, rfl, f a (by simp) _ h1, h2.mono e fun b hb => f b (by simp [hb])⟩
theorem CellOk.live {G H : Hp} {as : List Addr} {c : Cell} (h : CellOk G H as c) : ∀ a ∈ as, ∃ o, H a = some o := by
  cases c with
  | lst ds =>
    obtain ⟨a, vs, rfl, h1, h2⟩ := h
    intro b hb
    simp at hb; subst hb
    exact ⟨_, h1⟩
  | mat rs =>
    obtain ⟨a, bs, rfl, h1, h2⟩ := h
    intro b hb
    rcases List.mem_cons.mp hb with rfl | hb
    · exact ⟨_, h1⟩
    · obtain ⟨vs, e⟩ := h2.live b hb
      exact ⟨_, e⟩

structure W (G : Hp) (A : Nat → List Addr) (cs : Cells) (fr H : Hp) : Prop where
  gh : Ex G H
  fh : Ex fr H
  gf : ∀ a o, fr a = some o → G a = none
  cell : ∀ k c, cs[k]? = some (some c) → CellOk G H (A k) c
  nd : ∀ k c, cs[k]? = some (some c) → (A k).Nodup
  own : ∀ k c, cs[k]? = some (some c) → ∀ a ∈ A k, G a = none ∧ fr a = none
  apart : ∀ j k c d, j ≠ k → cs[j]? = some (some c) → cs[k]? = some (some d) → ∀ a ∈ A j, a ∉ A k
def AEx (n : Nat) (A A' : Nat → List Addr) : Prop := ∀ k, k < n → A' k = A k
theorem AEx.refl (n : Nat) (A : Nat → List Addr) : AEx n A A := fun _ _ => rfl
theorem AEx.trans {n m : Nat} {A B C : Nat → List Addr} (h : AEx n A B) (k : AEx m B C) (l : n ≤ m) : AEx n A C := fun i hi => (k i (Nat.lt_of_lt_of_le hi l)).trans (h i hi)
def VOk (K : PySem.W.Frag) (G : Hp) (A : Nat → List Addr) (n : Nat) (v : V) : SV → Prop
  | .d x => Dt G v x
  | .own k => k < n ∧ ∃ a l, A k = a :: l ∧ v = .ref a
  | .ro ns => ∃ a, v = .ref a ∧ SqL K G a (ns.map V.int)
theorem sqL_mono {K : PySem.W.Frag} {H H' : Hp} {a : Addr} {xs : List V} (e : Ex H H') (h : SqL K H a xs) : SqL K H' a xs := by
  rcases h with (h | ⟨o, h⟩) | h
  · exact .inl (.inl (e _ _ h))
  · exact .inl (.inr ⟨o, e _ _ h⟩)
  · exact .inr h
theorem VOk.mono {K : PySem.W.Frag} {G G' : Hp} {A A' : Nat → List Addr} {n n' : Nat} {v : V} {sv : SV} (e : Ex G G') (a : AEx n A A') (l : n ≤ n') (h : VOk K G A n v sv) : VOk K G' A' n' v sv := by
  cases sv with
  | d x => exact Dt.mono e h
  | own k =>
    obtain ⟨hk, b, m, h1, h2⟩ := h
    exact ⟨Nat.lt_of_lt_of_le hk l, b, m, (a k hk).trans h1, h2⟩
  | ro ns =>
    obtain ⟨b, h1, h2⟩ := h
    exact ⟨b, h1, sqL_mono e h2⟩
inductive VOks (K : PySem.W.Frag) (G : Hp) (A : Nat → List Addr) (n : Nat) : List V → List SV → Prop where
  | nil : VOks K G A n [] []
  | cons {v : V} {vs : List V} {x : SV} {xs : List SV} : VOk K G A n v x → VOks K G A n vs xs → VOks K G A n (v :: vs) (x :: xs)
theorem VOks.mono {K : PySem.W.Frag} {G G' : Hp} {A A' : Nat → List Addr} {n n' : Nat} (e : Ex G G') (a : AEx n A A') (l : n ≤ n') : ∀ {vs : List V} {xs : List SV}, VOks K G A n vs xs → VOks K G' A' n' vs xs
  | _, _, .nil => .nil
  | _, _, .cons h k => .cons (h.mono e a l) (VOks.mono e a l k)
theorem VOks.length {K : PySem.W.Frag} {G : Hp} {A : Nat → List Addr} {n : Nat} : ∀ {vs : List V} {xs : List SV}, VOks K G A n vs xs → vs.length = xs.length
  | _, _, .nil => rfl
  | _, _, .cons _ k => congrArg (· + 1) (VOks.length k)
theorem VOks.append {K : PySem.W.Frag} {G : Hp} {A : Nat → List Addr} {n : Nat} : ∀ {vs ws : List V} {xs ys : List SV}, VOks K G A n vs xs → VOks K G A n ws ys → VOks K G A n (vs ++ ws) (xs ++ ys)
  | _, _, _, _, .nil, k => k
  | _, _, _, _, .cons h k, q => .cons h (VOks.append k q)
theorem VOks.all {K : PySem.W.Frag} {G : Hp} {A : Nat → List Addr} {n : Nat} : ∀ {vs : List V} {xs : List PyData}, VOks K G A n vs (xs.map SV.d) → DtAll G vs xs
  | _, [], .nil => .nil
  | _, x :: xs, .cons h k => .cons h (VOks.all k)
theorem VOks.of {K : PySem.W.Frag} {G : Hp} {A : Nat → List Addr} {n : Nat} : ∀ {vs : List V} {xs : List PyData}, DtAll G vs xs → VOks K G A n vs (xs.map SV.d)
  | _, [], .nil => .nil
  | _, x :: xs, .cons h k => .cons h (VOks.of k)
/-- what the frame's names hold -/
structure Sl (K : PySem.W.Frag) (G : Hp) (A : Nat → List Addr) (n : Nat) (σ : L2.St) (ds : Slots) : Prop where
  len : σ.length = ds.length
  get : ∀ (i : Nat) (sv : SV), ds[i]? = some (some sv) → ∃ v, σ[i]? = some (some v) ∧ VOk K G A n v sv
section
variable {K : PySem.W.Frag} {G G' : Hp} {A A' : Nat → List Addr} {n n' : Nat} {σ : L2.St} {ds : Slots} {cs : Cells} {fr H H' : Hp} {v : V} {sv : SV} {p : Addr}
theorem Sl.mono (e : Ex G G') (a : AEx n A A') (l : n ≤ n') (h : Sl K G A n σ ds) : Sl K G' A' n' σ ds := ⟨h.len, fun i sv q => by
  obtain ⟨v, h1, h2⟩ := h.get i sv q
  exact ⟨v, h1, h2.mono e a l⟩⟩
theorem Sl.set (h : Sl K G A n σ ds) (i : Nat) (hv : VOk K G A n v sv) : Sl K G A n (σ.set i (some v)) (ds.set i (some sv)) := by
  refine ⟨by rw [List.length_set, List.length_set, h.len], fun j s q => ?_⟩
  by_cases e : i = j
  · subst e
    by_cases hi : i < ds.length
    · rw [List.getElem?_set_self hi] at q
      cases q
      exact ⟨v, List.getElem?_set_self (by rw [h.len]; exact hi), hv⟩
    · rw [List.getElem?_eq_none (by simpa using hi)] at q; cases q
  · rw [List.getElem?_set_ne e] at q ⊢
    exact h.get j s q
theorem Sl.unset (h : Sl K G A n σ ds) (i : Nat) (o : Option V) : Sl K G A n (σ.set i o) (ds.set i none) := by
  refine ⟨by rw [List.length_set, List.length_set, h.len], fun j s q => ?_⟩
  by_cases e : i = j
  · subst e
    by_cases hi : i < ds.length
    · rw [List.getElem?_set_self hi] at q; cases q
    · rw [List.getElem?_eq_none (by simpa using hi)] at q; cases q
  · rw [List.getElem?_set_ne e] at q ⊢
    exact h.get j s q
/-- less is known -/
theorem Sl.weak {ds' : Slots} (h : Sl K G A n σ ds) (hl : ds'.length = ds.length) (hd : ∀ (i : Nat) (sv : SV), ds'[i]? = some (some sv) → ds[i]? = some (some sv)) : Sl K G A n σ ds' :=
  ⟨h.len.trans hl.symm, fun i sv q => h.get i sv (hd i sv q)⟩

theorem W.grow (w : W G A cs fr H) (e : Ex H H') : W G A cs fr H' :=
  ⟨w.gh.trans e, w.fh.trans e, w.gf, fun k c q => (w.cell k c q).mono (Ex.refl _) fun a _ o h => e a o h, w.nd, w.own, w.apart⟩
theorem W.fresh_own (w : W G A cs fr H) (hp : H p = none) {k : Nat} {c : Cell} (q : cs[k]? = some (some c)) : p ∉ A k := fun hm => by
  obtain ⟨o, e⟩ := (w.cell k c q).live p hm
  rw [hp] at e; cases e
/-- a new object that all may see -/
theorem W.new {o : HO} (w : W G A cs fr H) (hp : H p = none) : W (upd G p o) A cs fr (upd H p o) ∧ Ex G (upd G p o) := by
  have gp : G p = none := w.gh.fresh hp
  have fp : fr p = none := w.fh.fresh hp
  refine ⟨⟨w.gh.upd2, w.fh.trans (Ex.new hp), fun a u q => ?_, fun k c q => (w.cell k c q).mono (Ex.new gp) fun a _ o h => Ex.new hp a o h, w.nd, fun k c q a ha => ?_, w.apart⟩, Ex.new gp⟩
  · rw [upd_ne (ne_of_none q fp)]; exact w.gf a u q
  · obtain ⟨h1, h2⟩ := w.own k c q a ha
    refine ⟨?_, h2⟩
    rw [upd_ne (fun z => w.fresh_own hp q (by rw [← z]; exact ha))]; exact h1
/-- a new list of one's own -/
theorem W.newCell {vs : List V} {xs : List PyData} (w : W G A cs fr H) (hp : H p = none) (hd : DtAll G vs xs) :
    W G (fun k => if k = cs.length then [p] else A k) (cs ++ [some (.lst xs)]) fr (upd H p (.lst vs)) ∧ AEx cs.length A (fun k => if k = cs.length then [p] else A k) := by
  have gp : G p = none := w.gh.fresh hp
  have fp : fr p = none := w.fh.fresh hp
  have old : ∀ k c, (cs ++ [some (.lst xs)])[k]? = some (some c) → (k < cs.length ∧ cs[k]? = some (some c)) ∨ (k = cs.length ∧ c = .lst xs) := fun k c q => by
    by_cases hk : k < cs.length
    · rw [List.getElem?_append_left hk] at q; exact .inl ⟨hk, q⟩
    · rw [List.getElem?_append_right (by omega)] at q
      have hk0 : k - cs.length = 0 := by
        cases e : k - cs.length with
        | zero => rfl
        | succ m => rw [e] at q; simp at q
      rw [hk0] at q
      simp at q
      exact .inr ⟨by omega, q.symm⟩
  have no : ∀ k, k < cs.length → ¬ k = cs.length := fun k h e => by omega
  refine ⟨⟨w.gh.mut gp, w.fh.mut fp, w.gf, fun k c q => ?_, fun k c q => ?_, fun k c q a ha => ?_, fun j k c d ne q1 q2 a ha => ?_⟩, fun k hk => if_neg (no k hk)⟩
  · rcases old k c q with ⟨hk, q⟩ | ⟨rfl, rfl⟩
    · rw [if_neg (no k hk)]
      exact (w.cell k c q).mono (Ex.refl _) fun a _ o h => Ex.new hp a o h
    · rw [if_pos rfl]
      exact ⟨p, vs, rfl, upd_same, hd⟩
  · rcases old k c q with ⟨hk, q⟩ | ⟨rfl, rfl⟩
    · rw [if_neg (no k hk)]; exact w.nd k c q
    · rw [if_pos rfl]; simp
  · rcases old k c q with ⟨hk, q⟩ | ⟨rfl, rfl⟩
    · rw [if_neg (no k hk)] at ha; exact w.own k c q a ha
    · rw [if_pos rfl] at ha
      simp at ha; subst ha
      exact ⟨gp, fp⟩
  · rcases old j c q1 with ⟨hj, q1⟩ | ⟨rfl, rfl⟩
    · rw [if_neg (no j hj)] at ha
      rcases old k d q2 with ⟨hk, q2⟩ | ⟨rfl, rfl⟩
      · rw [if_neg (no k hk)]; exact w.apart j k c d ne q1 q2 a ha
      · rw [if_pos rfl]
        intro hm
        simp at hm; subst hm
        exact w.fresh_own hp q1 ha
    · rw [if_pos rfl] at ha
      simp at ha; subst ha
      rcases old k d q2 with ⟨hk, q2⟩ | ⟨rfl, rfl⟩
      · rw [if_neg (no k hk)]; exact w.fresh_own hp q2
      · exact absurd rfl ne
theorem set_get {α : Type} {l : List α} {k j : Nat} {x y : α} (h : (l.set k x)[j]? = some y) : (j = k ∧ k < l.length ∧ y = x) ∨ (j ≠ k ∧ l[j]? = some y) := by
  by_cases e : k = j
  · subst e
    by_cases hk : k < l.length
    · rw [List.getElem?_set_self hk] at h; cases h; exact .inl ⟨rfl, hk, rfl⟩
    · rw [List.getElem?_eq_none (by simpa using hk)] at h; cases h
  · rw [List.getElem?_set_ne e] at h
    exact .inr ⟨fun z => e z.symm, h⟩
/-- a cell is written: anything at its own addresses may have changed -/
theorem W.write {k : Nat} {c c' : Cell} (w : W G A cs fr H) (hk : cs[k]? = some (some c)) (e : ∀ a o, a ∉ A k → H a = some o → H' a = some o) (ok : CellOk G H' (A k) c') : W G A (cs.set k (some c')) fr H' := by
  have gk : ∀ a o, G a = some o → a ∉ A k := fun a o q hm => by rw [(w.own k c hk a hm).1] at q; cases q
  have fk : ∀ a o, fr a = some o → a ∉ A k := fun a o q hm => by rw [(w.own k c hk a hm).2] at q; cases q
  refine ⟨fun a o q => e a o (gk a o q) (w.gh a o q), fun a o q => e a o (fk a o q) (w.fh a o q), w.gf, fun j d q => ?_, fun j d q => ?_, fun j d q => ?_, fun i j d d' ne q1 q2 => ?_⟩
  · rcases set_get q with ⟨rfl, _, z⟩ | ⟨ne, q⟩
    · cases z; exact ok
    · exact (w.cell j d q).mono (Ex.refl _) fun a ha o h => e a o (w.apart j k d c ne q hk a ha) h
  · rcases set_get q with ⟨rfl, _, z⟩ | ⟨ne, q⟩
    · exact w.nd _ c hk
    · exact w.nd j d q
  · rcases set_get q with ⟨rfl, _, z⟩ | ⟨ne, q⟩
    · exact w.own _ c hk
    · exact w.own j d q
  · have g : ∀ (i : Nat) (d : Cell), (cs.set k (some c'))[i]? = some (some d) → ∃ d', cs[i]? = some (some d') := fun i d q => by
      rcases set_get q with ⟨rfl, _, _⟩ | ⟨_, q⟩
      · exact ⟨c, hk⟩
      · exact ⟨d, q⟩
    obtain ⟨x, hx⟩ := g i d q1
    obtain ⟨y, hy⟩ := g j d' q2
    exact w.apart i j x y ne hx hy
/-- a cell is given up -/
theorem W.kill {k : Nat} (w : W G A cs fr H) : W G A (cs.set k none) fr H := by
  have g : ∀ (i : Nat) (d : Cell), (cs.set k none)[i]? = some (some d) → cs[i]? = some (some d) := fun i d q => by
    rcases set_get q with ⟨_, _, z⟩ | ⟨_, q⟩
    · cases z
    · exact q
  exact ⟨w.gh, w.fh, w.gf, fun j d q => w.cell j d (g j d q), fun j d q => w.nd j d (g j d q), fun j d q => w.own j d (g j d q), fun i j d d' ne q1 q2 => w.apart i j d d' ne (g i d q1) (g j d' q2)⟩
theorem W.take {m : Nat} (w : W G A cs fr H) : W G A (cs.take m) fr H := by
  have g : ∀ (i : Nat) (d : Cell), (cs.take m)[i]? = some (some d) → cs[i]? = some (some d) := fun i d q => by
    rw [List.getElem?_take] at q
    split at q
    · exact q
    · cases q
  exact ⟨w.gh, w.fh, w.gf, fun j d q => w.cell j d (g j d q), fun j d q => w.nd j d (g j d q), fun j d q => w.own j d (g j d q), fun i j d d' ne q1 q2 => w.apart i j d d' ne (g i d q1) (g j d' q2)⟩
/-- a list of one's own is laid open: from here on it is data -/
theorem W.freeze {k : Nat} {xs : List PyData} (w : W G A cs fr H) (hk : cs[k]? = some (some (.lst xs))) :
    ∃ a, A k = [a] ∧ ∃ vs, H a = some (.lst vs) ∧ DtAll G vs xs ∧ W (upd G a (.lst vs)) A (cs.set k none) fr H ∧ Ex G (upd G a (.lst vs)) ∧ Dt (upd G a (.lst vs)) (.ref a) (.list xs) := by
  obtain ⟨a, vs, ea, h1, h2⟩ := w.cell k _ hk
  have ha : a ∈ A k := by rw [ea]; simp
  obtain ⟨g0, f0⟩ := w.own k _ hk a ha
  have ex : Ex G (upd G a (.lst vs)) := Ex.new g0
  refine ⟨a, ea, vs, h1, h2, ⟨fun b o q => ?_, w.fh, fun b o q => ?_, fun j d q => ?_, fun j d q => ?_, fun j d q b hb => ?_, fun i j d d' ne q1 q2 => ?_⟩, ex, .lst upd_same (h2.mono ex)⟩
  · by_cases z : b = a
    · subst z; rw [upd_same] at q; cases q; exact h1
    · rw [upd_ne z] at q; exact w.gh b o q
  · rw [upd_ne (ne_of_none q f0)]; exact w.gf b o q
  · rcases set_get q with ⟨_, _, z⟩ | ⟨_, q⟩
    · cases z
    · exact (w.cell j d q).mono ex fun _ _ _ h => h
  · rcases set_get q with ⟨_, _, z⟩ | ⟨_, q⟩
    · cases z
    · exact w.nd j d q
  · rcases set_get q with ⟨_, _, z⟩ | ⟨ne, q⟩
    · cases z
    · obtain ⟨x, y⟩ := w.own j d q b hb
      refine ⟨?_, y⟩
      rw [upd_ne (fun z => w.apart j k d _ ne q hk b hb (by rw [z]; exact ha))]; exact x
  · rcases set_get q1 with ⟨_, _, z⟩ | ⟨_, q1⟩
    · cases z
    rcases set_get q2 with ⟨_, _, z⟩ | ⟨_, q2⟩
    · cases z
    exact w.apart i j d d' ne q1 q2
end
end DL
set_option Elab.async false
set_option linter.all false
set_option maxRecDepth 100000
set_option maxHeartbeats 2000000
/-! DL2: expressions over plain data. -/
namespace DL
open PySem PySem.Spec PyProof.Rows L2

def Go (K : PySem.W.Frag) (G : Hp) (A : Nat → List Addr) (n : Nat) (fr : Hp) (R : Cells → SV → Prop) (Q : VK) : Prop :=
  ∀ v sv cs' G' A' H', R cs' sv → Ex G G' → AEx n A A' → n ≤ cs'.length → W G' A' cs' fr H' → VOk K G' A' cs'.length v sv → Q v H'
def GoL (K : PySem.W.Frag) (G : Hp) (A : Nat → List Addr) (n : Nat) (fr : Hp) (R : Cells → List SV → Prop) (Q : List V → Hp → Prop) : Prop :=
  ∀ vs xs cs' G' A' H', R cs' xs → Ex G G' → AEx n A A' → n ≤ cs'.length → W G' A' cs' fr H' → VOks K G' A' cs'.length vs xs → Q vs H'
def GoB (G : Hp) (A : Nat → List Addr) (n : Nat) (fr : Hp) (R : Cells → Bool → Prop) (Q : Bool → Hp → Prop) : Prop :=
  ∀ b cs' G' A' H', R cs' b → Ex G G' → AEx n A A' → n ≤ cs'.length → W G' A' cs' fr H' → Q b H'
def tD (K : PySem.W.Frag) (ds : Slots) (cs : Cells) (R : Cells → SV → Prop) : TE := fun σ H Q => ∃ G A fr, W G A cs fr H ∧ Sl K G A cs.length σ ds ∧ Go K G A cs.length fr R Q
def tDA (K : PySem.W.Frag) (ds : Slots) (cs : Cells) (R : Cells → List SV → Prop) : TA := fun σ H Q => ∃ G A fr, W G A cs fr H ∧ Sl K G A cs.length σ ds ∧ GoL K G A cs.length fr R Q
def tDB (K : PySem.W.Frag) (ds : Slots) (cs : Cells) (R : Cells → Bool → Prop) : TT := fun σ H Q => ∃ G A fr, W G A cs fr H ∧ Sl K G A cs.length σ ds ∧ GoB G A cs.length fr R Q
def PD (X : Cx) (ds : Slots) (cs : Cells) (e : Expr) (R : Cells → SV → Prop) : Prop := PE X e (tD X.K ds cs R)
def PDA (X : Cx) (ds : Slots) (cs : Cells) (es : List Expr) (R : Cells → List SV → Prop) : Prop := PA X es (tDA X.K ds cs R)
def PDT (X : Cx) (ds : Slots) (cs : Cells) (e : Expr) (R : Cells → Bool → Prop) : Prop := PT X e (tDB X.K ds cs R)
def PDW (X : Cx) (ds : Slots) (cs : Cells) (e : Expr) (R : Cells → Bool → Prop) : Prop := PW X e (tDB X.K ds cs R)
/-- the one answer, nothing changed -/
def Is {α : Type} (cs : Cells) (x : α) : Cells → α → Prop := fun cs' y => cs' = cs ∧ y = x
abbrev PV (X : Cx) (ds : Slots) (cs : Cells) (e : Expr) (sv : SV) : Prop := PD X ds cs e (Is cs sv)
abbrev PVA (X : Cx) (ds : Slots) (cs : Cells) (es : List Expr) (xs : List SV) : Prop := PDA X ds cs es (Is cs xs)
abbrev PVT (X : Cx) (ds : Slots) (cs : Cells) (e : Expr) (b : Bool) : Prop := PDT X ds cs e (Is cs b)
abbrev PVW (X : Cx) (ds : Slots) (cs : Cells) (e : Expr) (b : Bool) : Prop := PDW X ds cs e (Is cs b)

section
variable {X : Cx} {e a b c : Expr} {es : List Expr} {t t' : TE} {pos : Pos}
theorem pe_imp (h : PE X e t) (k : ∀ σ H Q, t' σ H Q → t σ H Q) : PE X e t' := ⟨fun pins s σ H Q I q => h.run pins s σ H Q I (k σ H Q q)⟩
theorem pa_imp {t t' : TA} (h : PA X es t) (k : ∀ σ H Q, t' σ H Q → t σ H Q) : PA X es t' := ⟨fun pos pins s σ H Q I q => h.run pos pins s σ H Q I (k σ H Q q)⟩
theorem pt_imp {t t' : TT} (h : PT X e t) (k : ∀ σ H Q, t' σ H Q → t σ H Q) : PT X e t' := ⟨fun pins s σ H Q I q => h.run pins s σ H Q I (k σ H Q q)⟩
theorem pw_imp {t t' : TT} (h : PW X e t) (k : ∀ σ H Q, t' σ H Q → t σ H Q) : PW X e t' := ⟨fun w pins s σ H Q I q => h.run w pins s σ H Q I (k σ H Q q)⟩
theorem pe_any {ι : Type} {P : ι → Prop} {t : ι → TE} (h : ∀ i, P i → PE X e (t i)) : PE X e (fun σ H Q => ∃ i, P i ∧ t i σ H Q) := ⟨fun pins s σ H Q I ⟨i, p, q⟩ => (h i p).run pins s σ H Q I q⟩
theorem pa_any {ι : Type} {P : ι → Prop} {t : ι → TA} (h : ∀ i, P i → PA X es (t i)) : PA X es (fun σ H Q => ∃ i, P i ∧ t i σ H Q) := ⟨fun pos pins s σ H Q I ⟨i, p, q⟩ => (h i p).run pos pins s σ H Q I q⟩
theorem pt_any {ι : Type} {P : ι → Prop} {t : ι → TT} (h : ∀ i, P i → PT X e (t i)) : PT X e (fun σ H Q => ∃ i, P i ∧ t i σ H Q) := ⟨fun pins s σ H Q I ⟨i, p, q⟩ => (h i p).run pins s σ H Q I q⟩
theorem pw_any {ι : Type} {P : ι → Prop} {t : ι → TT} (h : ∀ i, P i → PW X e (t i)) : PW X e (fun σ H Q => ∃ i, P i ∧ t i σ H Q) := ⟨fun w pins s σ H Q I ⟨i, p, q⟩ => (h i p).run w pins s σ H Q I q⟩
end

section
variable {K : PySem.W.Frag} {G G' : Hp} {A A' : Nat → List Addr} {n n' : Nat} {fr H : Hp} {R R' : Cells → SV → Prop} {Q : VK} {cs cs' : Cells} {v : V} {sv : SV}
theorem Go.here (g : Go K G A cs.length fr R Q) (r : R cs sv) (w : W G A cs fr H) (ok : VOk K G A cs.length v sv) : Q v H := g v sv cs G A H r (Ex.refl G) (AEx.refl _ _) (Nat.le_refl _) w ok
theorem Go.step (g : Go K G A n fr R Q) (e : Ex G G') (a : AEx n A A') (l : n ≤ n') : Go K G' A' n' fr R Q := fun v sv cs' G2 A2 H2 r e2 a2 l2 w ok =>
  g v sv cs' G2 A2 H2 r (e.trans e2) (a.trans a2 l) (Nat.le_trans l l2) w ok
theorem Go.imp (g : Go K G A n fr R Q) (k : ∀ cs' sv, R' cs' sv → R cs' sv) : Go K G A n fr R' Q := fun v sv cs' G2 A2 H2 r e2 a2 l2 w ok => g v sv cs' G2 A2 H2 (k _ _ r) e2 a2 l2 w ok
theorem GoL.step {R : Cells → List SV → Prop} {Q : List V → Hp → Prop} (g : GoL K G A n fr R Q) (e : Ex G G') (a : AEx n A A') (l : n ≤ n') : GoL K G' A' n' fr R Q := fun v sv cs' G2 A2 H2 r e2 a2 l2 w ok =>
  g v sv cs' G2 A2 H2 r (e.trans e2) (a.trans a2 l) (Nat.le_trans l l2) w ok
theorem GoB.step {R : Cells → Bool → Prop} {Q : Bool → Hp → Prop} (g : GoB G A n fr R Q) (e : Ex G G') (a : AEx n A A') (l : n ≤ n') : GoB G' A' n' fr R Q := fun v cs' G2 A2 H2 r e2 a2 l2 w =>
  g v cs' G2 A2 H2 r (e.trans e2) (a.trans a2 l) (Nat.le_trans l l2) w
theorem GoB.here {R : Cells → Bool → Prop} {Q : Bool → Hp → Prop} {b : Bool} (g : GoB G A cs.length fr R Q) (r : R cs b) (w : W G A cs fr H) : Q b H := g b cs G A H r (Ex.refl G) (AEx.refl _ _) (Nat.le_refl _) w
/-- a new tuple or list that all may see -/
theorem Go.fresh {o : HO} {p : Addr} {d : PyData} (g : Go K G A cs.length fr R Q) (r : R cs (.d d)) (w : W G A cs fr H) (hp : H p = none) (ok : Dt (upd G p o) (.ref p) d) : Q (.ref p) (upd H p o) := by
  obtain ⟨w', ex⟩ := w.new (o := o) hp
  exact g _ _ cs _ A _ r ex (AEx.refl _ _) (Nat.le_refl _) w' ok
theorem Go.tup {p : Addr} {vs : List V} {xs : List PyData} (g : Go K G A cs.length fr R Q) (r : R cs (.d (.tuple xs))) (w : W G A cs fr H) (hd : DtAll G vs xs) (hp : H p = none) : Q (.ref p) (upd H p (.tup vs)) :=
  g.fresh r w hp (.tup upd_same (hd.mono (Ex.new (w.gh.fresh hp))))
theorem Go.lst {p : Addr} {vs : List V} {xs : List PyData} (g : Go K G A cs.length fr R Q) (r : R cs (.d (.list xs))) (w : W G A cs fr H) (hd : DtAll G vs xs) (hp : H p = none) : Q (.ref p) (upd H p (.lst vs)) :=
  g.fresh r w hp (.lst upd_same (hd.mono (Ex.new (w.gh.fresh hp))))
theorem Go.lstO {p : Addr} {vs : List V} {xs : List PyData} (g : Go K G A cs.length fr R Q) (r : R (cs ++ [some (.lst xs)]) (.own cs.length)) (w : W G A cs fr H) (hd : DtAll G vs xs) (hp : H p = none) : Q (.ref p) (upd H p (.lst vs)) := by
  obtain ⟨w', ax⟩ := w.newCell hp hd
  refine g _ _ _ G _ _ r (Ex.refl G) ax (by simp) w' ⟨by simp, p, [], if_pos rfl, rfl⟩
end

/-! ### rules of operations, over data -/
def OpD (K : PySem.W.Frag) (r : R2) (cs : Cells) (x y : SV) (R : Cells → SV → Prop) : Prop :=
  ∀ G A fr H v w Q, W G A cs fr H → VOk K G A cs.length v x → VOk K G A cs.length w y → Go K G A cs.length fr R Q → r v w H Q
def UnD (K : PySem.W.Frag) (r : V → Hp → VK → Prop) (cs : Cells) (x : SV) (R : Cells → SV → Prop) : Prop :=
  ∀ G A fr H v Q, W G A cs fr H → VOk K G A cs.length v x → Go K G A cs.length fr R Q → r v H Q
def CallD (K : PySem.W.Frag) (r : List V → Hp → VK → Prop) (cs : Cells) (xs : List SV) (R : Cells → SV → Prop) : Prop :=
  ∀ G A fr H vs Q, W G A cs fr H → VOks K G A cs.length vs xs → Go K G A cs.length fr R Q → r vs H Q

section
variable {X : Cx} {e a b c : Expr} {es : List Expr} {pos : Pos} {ds : Slots} {cs : Cells} {R : Cells → SV → Prop} {x : Str} {i : Nat} {sv : SV}
theorem PD.imp {R' : Cells → SV → Prop} (h : PD X ds cs e R) (k : ∀ cs' sv, R cs' sv → R' cs' sv) : PD X ds cs e R' := pe_imp h fun σ H Q ⟨G, A, fr, w, sl, g⟩ => ⟨G, A, fr, w, sl, g.imp k⟩
/-- from the one answer -/
theorem PV.pd (h : PV X ds cs e sv) (k : R cs sv) : PD X ds cs e R := PD.imp h fun cs' y ⟨e1, e2⟩ => by rw [e1, e2]; exact k
theorem PV.eq {sv' : SV} (h : PV X ds cs e sv) (k : sv = sv') : PV X ds cs e sv' := k ▸ h
theorem pd_var (i : Nat) (r : R cs sv) (h : ds[i]? = some (some sv) := by rfl) (hN : X.N[i]? = some x := by rfl) (hv : Vis X.env.scope x := by first | exact Or.inl rfl | exact Or.inr (Or.inl rfl) | exact Or.inr (Or.inr rfl)) (hd : (x == ("__debug__" : Str)) = false := by decide) (hcd : (x == ("__classdict__" : Str)) = false := by decide) : PD X ds cs (.Name x pos) R :=
  pe_imp (pe_var hN hv hd hcd) fun σ H Q ⟨G, A, fr, w, sl, g⟩ => by
    obtain ⟨v, h1, h2⟩ := sl.get i sv h
    exact ⟨v, h1, g.here r w h2⟩
theorem pv_var (i : Nat) (h : ds[i]? = some (some sv) := by rfl) (hN : X.N[i]? = some x := by rfl) (hv : Vis X.env.scope x := by first | exact Or.inl rfl | exact Or.inr (Or.inl rfl) | exact Or.inr (Or.inr rfl)) (hd : (x == ("__debug__" : Str)) = false := by decide) (hcd : (x == ("__classdict__" : Str)) = false := by decide) : PV X ds cs (.Name x pos) sv :=
  pd_var i ⟨rfl, rfl⟩ h hN hv hd hcd
theorem pd_of_tC {v : V} (h : PE X e (tC v)) (r : R cs sv) (ok : ∀ K G A n, VOk K G A n v sv) : PD X ds cs e R := pe_imp h fun σ H Q ⟨G, A, fr, w, sl, g⟩ => g.here r w (ok _ _ _ _)
theorem pv_int {i : Int} {j : Nat} : PV X ds cs (.Constant (.int i) j pos) (.d (.int i)) := pd_of_tC pe_int ⟨rfl, rfl⟩ fun _ _ _ _ => .int i
theorem pv_bl {i : Bool} {j : Nat} : PV X ds cs (.Constant (.bool i) j pos) (.d (.bool i)) := pd_of_tC pe_bl ⟨rfl, rfl⟩ fun _ _ _ _ => .bl i
theorem pv_non {j : Nat} : PV X ds cs (.Constant .none j pos) (.d .none) := pd_of_tC pe_non ⟨rfl, rfl⟩ fun _ _ _ _ => .non
theorem pv_str {z : Str} {j : Nat} : PV X ds cs (.Constant (.str z) j pos) (.d (.str z)) := pd_of_tC pe_str ⟨rfl, rfl⟩ fun _ _ _ _ => .str z
/-- a module's constant that is an int -/
theorem pv_glob {n : Int} {t : Tok} (hm : X.mg x = some (.int n t)) (hg : Gl X x := by rfl) (hd : (x == ("__debug__" : Str)) = false := by decide) : PV X ds cs (.Name x pos) (.d (.int n)) := pd_of_tC (pe_glob (v := .int n) hg hm ⟨t, rfl⟩ hd) ⟨rfl, rfl⟩ fun _ _ _ _ => .int n

/-- two operands and their operation -/
theorem pd_two {r : R2} {Ra : Cells → SV → Prop} {Rb : Cells → SV → Cells → SV → Prop} {ea eb e : Expr} (mk : ∀ ta tb, PE X ea ta → PE X eb tb → PE X e (tOp r ta tb)) (ha : PD X ds cs ea Ra) (hb : ∀ cs1 x, Ra cs1 x → PD X ds cs1 eb (Rb cs1 x))
    (hr : ∀ cs1 x cs2 y, Ra cs1 x → Rb cs1 x cs2 y → cs1.length ≤ cs2.length → OpD X.K r cs2 x y R) : PD X ds cs e R := by
  refine pe_imp (mk _ _ ha (pe_any (ι := Cells × SV) (P := fun p => Ra p.1 p.2) (t := fun p => tD X.K ds p.1 (Rb p.1 p.2)) fun p hp => hb p.1 p.2 hp)) fun σ H Q ⟨G, A, fr, w, sl, g⟩ => ?_
  refine ⟨G, A, fr, w, sl, fun v x cs1 G1 A1 H1 r1 e1 a1 l1 w1 ok1 => ?_⟩
  refine ⟨(cs1, x), r1, G1, A1, fr, w1, sl.mono e1 a1 l1, fun v2 y cs2 G2 A2 H2 r2 e2 a2 l2 w2 ok2 => ?_⟩
  exact hr cs1 x cs2 y r1 r2 l2 G2 A2 fr H2 v v2 Q w2 (ok1.mono e2 a2 l2) ok2 (g.step (e1.trans e2) (a1.trans a2 l1) (Nat.le_trans l1 l2))
theorem pd_one {r : V → Hp → VK → Prop} {Ra : Cells → SV → Prop} {ea e : Expr} (mk : ∀ ta, PE X ea ta → PE X e (tUn r ta)) (ha : PD X ds cs ea Ra) (hr : ∀ cs1 x, Ra cs1 x → UnD X.K r cs1 x R) : PD X ds cs e R := by
  refine pe_imp (mk _ ha) fun σ H Q ⟨G, A, fr, w, sl, g⟩ => ?_
  refine ⟨G, A, fr, w, sl, fun v x cs1 G1 A1 H1 r1 e1 a1 l1 w1 ok1 => ?_⟩
  exact hr cs1 x r1 G1 A1 fr H1 v Q w1 ok1 (g.step e1 a1 l1)
theorem pd_op {op : Operator} {r : R2} {Ra : Cells → SV → Prop} {Rb : Cells → SV → Cells → SV → Prop} (ho : OpR X (binaryOp op) r) (ha : PD X ds cs a Ra) (hb : ∀ cs1 x, Ra cs1 x → PD X ds cs1 b (Rb cs1 x))
    (hr : ∀ cs1 x cs2 y, Ra cs1 x → Rb cs1 x cs2 y → cs1.length ≤ cs2.length → OpD X.K r cs2 x y R) : PD X ds cs (.BinOp a op b pos) R := pd_two (fun _ _ h1 h2 => pe_op ho h1 h2) ha hb hr
theorem pv_op {op : Operator} {r : R2} {u w : SV} (ho : OpR X (binaryOp op) r) (ha : PV X ds cs a u) (hb : PV X ds cs b w) (hr : OpD X.K r cs u w R) : PD X ds cs (.BinOp a op b pos) R :=
  pd_op ho ha (Rb := fun _ _ => Is cs w) (fun cs1 x ⟨e1, _⟩ => by rw [e1]; exact hb) fun cs1 x cs2 y ⟨_, e2⟩ ⟨e3, e4⟩ _ => by rw [e2, e3, e4]; exact hr
theorem pv_cmp {op : CmpOp} {r : R2} {u w : SV} (ho : OpR X (compareOp op) r) (ha : PV X ds cs a u) (hb : PV X ds cs b w) (hr : OpD X.K r cs u w R) (hm : behindInMarks op b = false := by first | exact nobehind _ (by decide) (by decide) | rfl) : PD X ds cs (.Compare a [op] [b] pos) R :=
  pd_two (fun _ _ h1 h2 => pe_cmpR ho h1 h2 hm) ha (Rb := fun _ _ => Is cs w) (fun cs1 x ⟨e1, _⟩ => by rw [e1]; exact hb) fun cs1 x cs2 y ⟨_, e2⟩ ⟨e3, e4⟩ _ => by rw [e2, e3, e4]; exact hr
theorem pd_cmp {op : CmpOp} {r : R2} {Ra : Cells → SV → Prop} {Rb : Cells → SV → Cells → SV → Prop} (ho : OpR X (compareOp op) r) (ha : PD X ds cs a Ra) (hb : ∀ cs1 x, Ra cs1 x → PD X ds cs1 b (Rb cs1 x))
    (hr : ∀ cs1 x cs2 y, Ra cs1 x → Rb cs1 x cs2 y → cs1.length ≤ cs2.length → OpD X.K r cs2 x y R) (hm : behindInMarks op b = false := by first | exact nobehind _ (by decide) (by decide) | rfl) : PD X ds cs (.Compare a [op] [b] pos) R := pd_two (fun _ _ h1 h2 => pe_cmpR ho h1 h2 hm) ha hb hr
theorem pv_un {op : UnaryOp} {r : V → Hp → VK → Prop} {u : SV} (ho : UnR X (unaryOp op) r) (ha : PV X ds cs a u) (hr : UnD X.K r cs u R) : PD X ds cs (.UnaryOp op a pos) R :=
  pd_one (fun _ h => pe_un ho h) ha fun cs1 x ⟨e1, e2⟩ => by rw [e1, e2]; exact hr
end

/-! ### instances: ints, bools -/
section
variable {K : PySem.W.Frag} {cs : Cells} {R : Cells → SV → Prop} {i j : Int}
theorem od_I0 {g : Int → Int → V} {d : PyData} (hd : flatD d = some (g i j)) (r : R cs (.d d)) : OpD K (rI0 g) cs (.d (.int i)) (.d (.int j)) R := by
  intro G A fr H v w Q W0 h1 h2 k
  cases h1; cases h2
  refine ⟨i, j, rfl, rfl, k.here r W0 ?_⟩
  show Dt G _ d
  revert hd
  generalize g i j = z
  intro hd
  cases d <;> simp [flatD] at hd <;> subst hd <;> constructor
theorem od_I {C : Int → Int → Prop} {g : Int → Int → V} {d : PyData} (hd : flatD d = some (g i j)) (hc : C i j) (r : R cs (.d d)) : OpD K (rI C g) cs (.d (.int i)) (.d (.int j)) R := by
  intro G A fr H v w Q W0 h1 h2 k
  cases h1; cases h2
  refine ⟨i, j, rfl, rfl, hc, k.here r W0 ?_⟩
  show Dt G _ d
  revert hd
  generalize g i j = z
  intro hd
  cases d <;> simp [flatD] at hd <;> subst hd <;> constructor
end
section
variable {X : Cx} {e a b c : Expr} {es : List Expr} {pos : Pos} {ds : Slots} {cs : Cells} {i j : Int}
theorem pv_add (ha : PV X ds cs a (.d (.int i))) (hb : PV X ds cs b (.d (.int j))) : PV X ds cs (.BinOp a .Add b pos) (.d (.int (i + j))) := pv_op op_add ha hb (od_I0 rfl ⟨rfl, rfl⟩)
theorem pv_sub (ha : PV X ds cs a (.d (.int i))) (hb : PV X ds cs b (.d (.int j))) : PV X ds cs (.BinOp a .Sub b pos) (.d (.int (i - j))) := pv_op op_sub ha hb (od_I0 rfl ⟨rfl, rfl⟩)
theorem pv_mul (ha : PV X ds cs a (.d (.int i))) (hb : PV X ds cs b (.d (.int j))) (h : (-(2 ^ 64) < i ∧ i < 2 ^ 64) ∨ (-(2 ^ 64) < j ∧ j < 2 ^ 64)) : PV X ds cs (.BinOp a .Mult b pos) (.d (.int (i * j))) :=
  pv_op op_mul ha hb (od_I rfl h ⟨rfl, rfl⟩)
theorem pv_mod (ha : PV X ds cs a (.d (.int i))) (hb : PV X ds cs b (.d (.int j))) (h : 0 < j) : PV X ds cs (.BinOp a .Mod b pos) (.d (.int (i % j))) := pv_op op_mod ha hb (od_I rfl h ⟨rfl, rfl⟩)
theorem pv_fdiv (ha : PV X ds cs a (.d (.int i))) (hb : PV X ds cs b (.d (.int j))) (h : 0 < j ∧ j < 1073741824) : PV X ds cs (.BinOp a .FloorDiv b pos) (.d (.int (i / j))) := pv_op op_fdiv ha hb (od_I rfl h ⟨rfl, rfl⟩)
theorem pv_pow (ha : PV X ds cs a (.d (.int i))) (hb : PV X ds cs b (.d (.int j))) (h : 0 ≤ j ∧ j ≤ 1000000 ∧ i.natAbs < 2 ^ 64) : PV X ds cs (.BinOp a .Pow b pos) (.d (.int (i ^ j.toNat))) := pv_op op_pow ha hb (od_I rfl h ⟨rfl, rfl⟩)
theorem pv_lt (ha : PV X ds cs a (.d (.int i))) (hb : PV X ds cs b (.d (.int j))) : PV X ds cs (.Compare a [.Lt] [b] pos) (.d (.bool (decide (i < j)))) := pv_cmp op_lt ha hb (od_I0 rfl ⟨rfl, rfl⟩)
theorem pv_le (ha : PV X ds cs a (.d (.int i))) (hb : PV X ds cs b (.d (.int j))) : PV X ds cs (.Compare a [.LtE] [b] pos) (.d (.bool (decide (i ≤ j)))) := pv_cmp op_le ha hb (od_I0 rfl ⟨rfl, rfl⟩)
theorem pv_gt (ha : PV X ds cs a (.d (.int i))) (hb : PV X ds cs b (.d (.int j))) : PV X ds cs (.Compare a [.Gt] [b] pos) (.d (.bool (decide (j < i)))) := pv_cmp op_gt ha hb (od_I0 rfl ⟨rfl, rfl⟩)
theorem pv_ge (ha : PV X ds cs a (.d (.int i))) (hb : PV X ds cs b (.d (.int j))) : PV X ds cs (.Compare a [.GtE] [b] pos) (.d (.bool (decide (j ≤ i)))) := pv_cmp op_ge ha hb (od_I0 rfl ⟨rfl, rfl⟩)
/-! == over data -/
def scalD : PyData → PyData → Bool
  | .int _, .int _ => true
  | .bool _, .bool _ => true
  | .str _, .str _ => true
  | _, _ => false
theorem pv_eqI (ha : PV X ds cs a (.d (.int i))) (hb : PV X ds cs b (.d (.int j))) : PV X ds cs (.Compare a [.Eq] [b] pos) (.d (.bool (decide (i = j)))) :=
  pv_cmp op_eq ha hb fun G A fr H v w Q W0 h1 h2 k => by
    cases h1; cases h2
    refine ⟨rfl, ?_⟩
    have e : decide (V.int i = V.int j) = decide (i = j) := by
      by_cases q : i = j
      · subst q; simp
      · rw [decide_eq_false q, decide_eq_false (fun z => q (V.int.inj z))]
    rw [e]
    exact k.here ⟨rfl, rfl⟩ W0 (.bl _)
theorem pv_neI (ha : PV X ds cs a (.d (.int i))) (hb : PV X ds cs b (.d (.int j))) : PV X ds cs (.Compare a [.NotEq] [b] pos) (.d (.bool (!decide (i = j)))) :=
  pv_cmp op_ne ha hb fun G A fr H v w Q W0 h1 h2 k => by
    cases h1; cases h2
    refine ⟨rfl, ?_⟩
    have e : decide (V.int i = V.int j) = decide (i = j) := by
      by_cases q : i = j
      · subst q; simp
      · rw [decide_eq_false q, decide_eq_false (fun z => q (V.int.inj z))]
    rw [e]
    exact k.here ⟨rfl, rfl⟩ W0 (.bl _)
theorem pv_eqB {p q : Bool} (ha : PV X ds cs a (.d (.bool p))) (hb : PV X ds cs b (.d (.bool q))) : PV X ds cs (.Compare a [.Eq] [b] pos) (.d (.bool (decide (p = q)))) :=
  pv_cmp op_eq ha hb fun G A fr H v w Q W0 h1 h2 k => by
    cases h1; cases h2
    refine ⟨rfl, ?_⟩
    have e : decide (V.bl p = V.bl q) = decide (p = q) := by
      by_cases z : p = q
      · subst z; simp
      · rw [decide_eq_false z, decide_eq_false (fun y => z (V.bl.inj y))]
    rw [e]
    exact k.here ⟨rfl, rfl⟩ W0 (.bl _)
theorem pv_eqD {d1 d2 : PyData} (hu : X.A.units + 64 < cLine) (ha : PV X ds cs a (.d d1)) (hb : PV X ds cs b (.d d2)) (s1 : SeqAt.shaped d1 = true) (s2 : SeqAt.shaped d2 = true) : PV X ds cs (.Compare a [.Eq] [b] pos) (.d (.bool (PyData.eqv d1 d2))) :=
  pv_cmp (op_eqD hu) ha hb fun G A fr H v w Q W0 h1 h2 k => ⟨d1, d2, (Dt.mono W0.gh h1).dp, (Dt.mono W0.gh h2).dp, s1, s2, k.here ⟨rfl, rfl⟩ W0 (.bl _)⟩
theorem pv_neD {d1 d2 : PyData} (hu : X.A.units + 64 < cLine) (ha : PV X ds cs a (.d d1)) (hb : PV X ds cs b (.d d2)) (s1 : SeqAt.shaped d1 = true) (s2 : SeqAt.shaped d2 = true) : PV X ds cs (.Compare a [.NotEq] [b] pos) (.d (.bool (!PyData.eqv d1 d2))) :=
  pv_cmp (op_neD hu) ha hb fun G A fr H v w Q W0 h1 h2 k => ⟨d1, d2, (Dt.mono W0.gh h1).dp, (Dt.mono W0.gh h2).dp, s1, s2, k.here ⟨rfl, rfl⟩ W0 (.bl _)⟩
def isNoneD : PyData → Bool
  | .none => true
  | _ => false
theorem isNoneD_dt {G : Hp} {v : V} {d : PyData} (h : Dt G v d) : decide (v = .non) = isNoneD d := by
  cases h <;> simp [isNoneD]
theorem pv_isN {d : PyData} {jj : Nat} {p2 : Pos} (ha : PV X ds cs a (.d d)) : PV X ds cs (.Compare a [.Is] [.Constant .none jj p2] pos) (.d (.bool (isNoneD d))) :=
  pv_cmp op_isN ha pv_non fun G A fr H v w Q W0 h1 h2 k => by
    cases h2
    refine ⟨rfl, ?_⟩
    rw [isNoneD_dt h1]
    exact k.here ⟨rfl, rfl⟩ W0 (.bl _)
theorem pv_notN {d : PyData} {jj : Nat} {p2 : Pos} (ha : PV X ds cs a (.d d)) : PV X ds cs (.Compare a [.IsNot] [.Constant .none jj p2] pos) (.d (.bool (!isNoneD d))) :=
  pv_cmp op_notN ha pv_non fun G A fr H v w Q W0 h1 h2 k => by
    cases h2
    refine ⟨rfl, ?_⟩
    rw [isNoneD_dt h1]
    exact k.here ⟨rfl, rfl⟩ W0 (.bl _)
theorem pv_isB {p q : Bool} (ha : PV X ds cs a (.d (.bool p))) (hb : PV X ds cs b (.d (.bool q))) : PV X ds cs (.Compare a [.Is] [b] pos) (.d (.bool (decide (p = q)))) :=
  pv_cmp op_isBl ha hb fun G A fr H v w Q W0 h1 h2 k => by
    cases h1; cases h2
    exact ⟨p, q, rfl, rfl, k.here ⟨rfl, rfl⟩ W0 (.bl _)⟩
theorem pv_neg (ha : PV X ds cs a (.d (.int i))) : PV X ds cs (.UnaryOp .USub a pos) (.d (.int (-i))) := pv_un un_neg ha fun G A fr H v Q W0 h1 k => by
  cases h1
  exact ⟨i, rfl, k.here ⟨rfl, rfl⟩ W0 (.int _)⟩
end
end DL
set_option Elab.async false
set_option linter.all false
set_option maxRecDepth 100000
set_option maxHeartbeats 2000000
/-! DL3: booleans, tests, displays, subscripts, slices, calls of built-ins. -/
namespace DL
open PySem PySem.Spec PyProof.Rows L2

theorem dt_lst {G : Hp} {v : V} {ds : List PyData} (h : Dt G v (.list ds)) : ∃ a xs, v = .ref a ∧ G a = some (.lst xs) ∧ DtAll G xs ds := by
  cases h with
  | lst h k => exact ⟨_, _, rfl, h, k⟩
theorem dt_tup {G : Hp} {v : V} {ds : List PyData} (h : Dt G v (.tuple ds)) : ∃ a xs, v = .ref a ∧ G a = some (.tup xs) ∧ DtAll G xs ds := by
  cases h with
  | tup h k => exact ⟨_, _, rfl, h, k⟩
section
variable {X : Cx} {e a b c : Expr} {es rest : List Expr} {pos : Pos} {ds : Slots} {cs : Cells} {R : Cells → SV → Prop} {x : Str} {i : Nat} {sv : SV}

/-! ### booleans as values -/
theorem pd_not {Ra : Cells → SV → Prop} (ha : PD X ds cs a Ra) (k : ∀ cs1 x, Ra cs1 x → ∃ p, x = .d (.bool p) ∧ R cs1 (.d (.bool (!p)))) : PD X ds cs (.UnaryOp .Not a pos) R := by
  refine pe_imp (pe_not ha) fun σ H Q ⟨G, A, fr, w, sl, g⟩ => ⟨G, A, fr, w, sl, fun v x cs1 G1 A1 H1 r1 e1 a1 l1 w1 ok1 => ?_⟩
  obtain ⟨p, rfl, hr⟩ := k cs1 x r1
  cases ok1
  exact ⟨p, rfl, (g.step e1 a1 l1).here hr w1 (.bl _)⟩
theorem pv_not {p : Bool} (ha : PV X ds cs a (.d (.bool p))) : PV X ds cs (.UnaryOp .Not a pos) (.d (.bool (!p))) :=
  pd_not ha fun cs1 x ⟨e1, e2⟩ => ⟨p, e2, e1, rfl⟩
theorem pd_and {Ra : Cells → SV → Prop} (ha : PD X ds cs a Ra) (hf : ∀ cs1 x, Ra cs1 x → ∃ p, x = .d (.bool p) ∧ (p = false → R cs1 (.d (.bool false)))) (hb : ∀ cs1, Ra cs1 (.d (.bool true)) → PD X ds cs1 (.BoolOp .And (b :: rest) pos) R) : PD X ds cs (.BoolOp .And (a :: b :: rest) pos) R := by
  refine pe_imp (pe_and ha (pe_any (P := fun cs1 => Ra cs1 (.d (.bool true))) hb)) fun σ H Q ⟨G, A, fr, w, sl, g⟩ => ⟨G, A, fr, w, sl, fun v x cs1 G1 A1 H1 r1 e1 a1 l1 w1 ok1 => ?_⟩
  obtain ⟨p, rfl, hr⟩ := hf cs1 x r1
  cases ok1
  refine ⟨p, rfl, ?_⟩
  cases p with
  | true => exact iteT ⟨cs1, r1, G1, A1, fr, w1, sl.mono e1 a1 l1, g.step e1 a1 l1⟩
  | false => exact iteF ((g.step e1 a1 l1).here (hr rfl) w1 (.bl _))
theorem pv_and {p q : Bool} (ha : PV X ds cs a (.d (.bool p))) (hb : p = true → PV X ds cs (.BoolOp .And (b :: rest) pos) (.d (.bool q))) : PV X ds cs (.BoolOp .And (a :: b :: rest) pos) (.d (.bool (p && q))) :=
  pd_and ha (fun cs1 x ⟨e1, e2⟩ => ⟨p, e2, fun z => by rw [z]; exact ⟨e1, rfl⟩⟩) fun cs1 ⟨e1, e2⟩ => by
    have hp : p = true := by injection e2 with z; injection z with z; exact z.symm
    subst hp
    rw [e1]
    exact hb rfl
theorem pd_or {Ra : Cells → SV → Prop} (ha : PD X ds cs a Ra) (hf : ∀ cs1 x, Ra cs1 x → ∃ p, x = .d (.bool p) ∧ (p = true → R cs1 (.d (.bool true)))) (hb : ∀ cs1, Ra cs1 (.d (.bool false)) → PD X ds cs1 (.BoolOp .Or (b :: rest) pos) R) : PD X ds cs (.BoolOp .Or (a :: b :: rest) pos) R := by
  refine pe_imp (pe_or ha (pe_any (P := fun cs1 => Ra cs1 (.d (.bool false))) hb)) fun σ H Q ⟨G, A, fr, w, sl, g⟩ => ⟨G, A, fr, w, sl, fun v x cs1 G1 A1 H1 r1 e1 a1 l1 w1 ok1 => ?_⟩
  obtain ⟨p, rfl, hr⟩ := hf cs1 x r1
  cases ok1
  refine ⟨p, rfl, ?_⟩
  cases p with
  | false => exact iteF ⟨cs1, r1, G1, A1, fr, w1, sl.mono e1 a1 l1, g.step e1 a1 l1⟩
  | true => exact iteT ((g.step e1 a1 l1).here (hr rfl) w1 (.bl _))
theorem pv_or {p q : Bool} (ha : PV X ds cs a (.d (.bool p))) (hb : p = false → PV X ds cs (.BoolOp .Or (b :: rest) pos) (.d (.bool q))) : PV X ds cs (.BoolOp .Or (a :: b :: rest) pos) (.d (.bool (p || q))) :=
  pd_or ha (fun cs1 x ⟨e1, e2⟩ => ⟨p, e2, fun z => by rw [z]; exact ⟨e1, rfl⟩⟩) fun cs1 ⟨e1, e2⟩ => by
    have hp : p = false := by injection e2 with z; injection z with z; exact z.symm
    subst hp
    rw [e1]
    exact hb rfl
theorem pd_last {op : BoolOp} (ha : PD X ds cs a R) : PD X ds cs (.BoolOp op [a] pos) R := pe_one ha
/-- a if t else b -/
theorem pd_if {Rc : Cells → Bool → Prop} (hc : PDT X ds cs c Rc) (ha : ∀ cs1, Rc cs1 true → PD X ds cs1 a R) (hb : ∀ cs1, Rc cs1 false → PD X ds cs1 b R) : PD X ds cs (.IfExp c a b pos) R := by
  refine pe_imp (pe_ifExp hc (pe_any (P := fun cs1 => Rc cs1 true) ha) (pe_any (P := fun cs1 => Rc cs1 false) hb)) fun σ H Q ⟨G, A, fr, w, sl, g⟩ => ⟨G, A, fr, w, sl, fun p cs1 G1 A1 H1 r1 e1 a1 l1 w1 => ?_⟩
  cases p with
  | true => exact iteT ⟨cs1, r1, G1, A1, fr, w1, sl.mono e1 a1 l1, g.step e1 a1 l1⟩
  | false => exact iteF ⟨cs1, r1, G1, A1, fr, w1, sl.mono e1 a1 l1, g.step e1 a1 l1⟩
theorem pv_if {p : Bool} (hc : PVT X ds cs c p) (ha : p = true → PD X ds cs a R) (hb : p = false → PD X ds cs b R) : PD X ds cs (.IfExp c a b pos) R :=
  pd_if hc (fun cs1 ⟨e1, e2⟩ => by rw [e1]; exact ha e2.symm) (fun cs1 ⟨e1, e2⟩ => by rw [e1]; exact hb e2.symm)

/-! ### tests -/
theorem PDT.imp {R R' : Cells → Bool → Prop} (h : PDT X ds cs e R) (k : ∀ cs' b, R cs' b → R' cs' b) : PDT X ds cs e R' := pt_imp h fun σ H Q ⟨G, A, fr, w, sl, g⟩ => ⟨G, A, fr, w, sl, fun b cs' G2 A2 H2 r e a l w => g b cs' G2 A2 H2 (k _ _ r) e a l w⟩
theorem PVT.eq {p q : Bool} (h : PVT X ds cs e p) (k : p = q) : PVT X ds cs e q := k ▸ h
/-- an expression that gives True or False -/
theorem pdt_val {Ra : Cells → SV → Prop} {Rb : Cells → Bool → Prop} (ha : PD X ds cs e Ra) (k : ∀ cs1 x, Ra cs1 x → ∃ p, x = .d (.bool p) ∧ Rb cs1 p) (he : ∀ whole, isTrue e X.env whole = (do let v ← whole; standAt e.pos; holding [v] (truthy v)) := by intro _; rfl) : PDT X ds cs e Rb := by
  refine pt_imp (pt_val ha he) fun σ H Q ⟨G, A, fr, w, sl, g⟩ => ⟨G, A, fr, w, sl, fun v x cs1 G1 A1 H1 r1 e1 a1 l1 w1 ok1 => ?_⟩
  obtain ⟨p, rfl, hr⟩ := k cs1 x r1
  cases ok1
  exact ⟨p, rfl, (g.step e1 a1 l1).here hr w1⟩
theorem pvt_val {p : Bool} (ha : PV X ds cs e (.d (.bool p))) (he : ∀ whole, isTrue e X.env whole = (do let v ← whole; standAt e.pos; holding [v] (truthy v)) := by intro _; rfl) : PVT X ds cs e p :=
  pdt_val ha (fun cs1 x ⟨e1, e2⟩ => ⟨p, e2, e1, rfl⟩) he
theorem pvt_not {p : Bool} (ha : PVT X ds cs a p) : PVT X ds cs (.UnaryOp .Not a pos) (!p) := by
  refine pt_imp (pt_not ha) fun σ H Q ⟨G, A, fr, w, sl, g⟩ => ⟨G, A, fr, w, sl, fun q cs1 G1 A1 H1 ⟨r1, r2⟩ e1 a1 l1 w1 => ?_⟩
  rw [r2]
  exact g _ _ _ _ _ ⟨r1, rfl⟩ e1 a1 l1 w1
theorem PVW.pvt {p : Bool} (h : PVW X ds cs e p) : PVT X ds cs e p := PW.pt h
theorem pvw_and1 {p : Bool} (ha : PVT X ds cs a p) : PVW X ds cs (.BoolOp .And [a] pos) p := pw_and1 ha
theorem pvw_or1 {p : Bool} (ha : PVT X ds cs a p) : PVW X ds cs (.BoolOp .Or [a] pos) p := pw_or1 ha
theorem pvw_and {p q : Bool} (ha : PVT X ds cs a p) (hb : p = true → PVW X ds cs (.BoolOp .And (b :: rest) pos) q) : PVW X ds cs (.BoolOp .And (a :: b :: rest) pos) (p && q) := by
  refine pw_imp (pw_and ha (pw_any (P := fun _ : Unit => p = true) fun _ => hb)) fun σ H Q ⟨G, A, fr, w, sl, g⟩ => ⟨G, A, fr, w, sl, fun y cs1 G1 A1 H1 ⟨r1, r2⟩ e1 a1 l1 w1 => ?_⟩
  subst r1 r2
  cases y with
  | true => exact iteT ⟨(), rfl, G1, A1, fr, w1, sl.mono e1 a1 l1, g.step e1 a1 l1⟩
  | false => exact iteF ((g.step e1 a1 l1).here ⟨rfl, rfl⟩ w1)
theorem pvw_or {p q : Bool} (ha : PVT X ds cs a p) (hb : p = false → PVW X ds cs (.BoolOp .Or (b :: rest) pos) q) : PVW X ds cs (.BoolOp .Or (a :: b :: rest) pos) (p || q) := by
  refine pw_imp (pw_or ha (pw_any (P := fun _ : Unit => p = false) fun _ => hb)) fun σ H Q ⟨G, A, fr, w, sl, g⟩ => ⟨G, A, fr, w, sl, fun y cs1 G1 A1 H1 ⟨r1, r2⟩ e1 a1 l1 w1 => ?_⟩
  subst r1 r2
  cases y with
  | false => exact iteF ⟨(), rfl, G1, A1, fr, w1, sl.mono e1 a1 l1, g.step e1 a1 l1⟩
  | true => exact iteT ((g.step e1 a1 l1).here ⟨rfl, rfl⟩ w1)
theorem pvt_and {p q : Bool} (ha : PVT X ds cs a p) (hb : p = true → PVW X ds cs (.BoolOp .And (b :: rest) pos) q) : PVT X ds cs (.BoolOp .And (a :: b :: rest) pos) (p && q) := (pvw_and ha hb).pvt
theorem pvt_or {p q : Bool} (ha : PVT X ds cs a p) (hb : p = false → PVW X ds cs (.BoolOp .Or (b :: rest) pos) q) : PVT X ds cs (.BoolOp .Or (a :: b :: rest) pos) (p || q) := (pvw_or ha hb).pvt
theorem pdw_and1 {R : Cells → Bool → Prop} (ha : PDT X ds cs a R) : PDW X ds cs (.BoolOp .And [a] pos) R := pw_and1 ha
theorem pdw_or1 {R : Cells → Bool → Prop} (ha : PDT X ds cs a R) : PDW X ds cs (.BoolOp .Or [a] pos) R := pw_or1 ha
theorem pdw_and {Ra R : Cells → Bool → Prop} (ha : PDT X ds cs a Ra) (hf : ∀ cs1, Ra cs1 false → R cs1 false) (hb : ∀ cs1, Ra cs1 true → PDW X ds cs1 (.BoolOp .And (b :: rest) pos) R) : PDW X ds cs (.BoolOp .And (a :: b :: rest) pos) R := by
  refine pw_imp (pw_and ha (pw_any (P := fun cs1 => Ra cs1 true) hb)) fun σ H Q ⟨G, A, fr, w, sl, g⟩ => ⟨G, A, fr, w, sl, fun y cs1 G1 A1 H1 r1 e1 a1 l1 w1 => ?_⟩
  cases y with
  | true => exact iteT ⟨cs1, r1, G1, A1, fr, w1, sl.mono e1 a1 l1, g.step e1 a1 l1⟩
  | false => exact iteF ((g.step e1 a1 l1).here (hf _ r1) w1)
theorem pdw_or {Ra R : Cells → Bool → Prop} (ha : PDT X ds cs a Ra) (hf : ∀ cs1, Ra cs1 true → R cs1 true) (hb : ∀ cs1, Ra cs1 false → PDW X ds cs1 (.BoolOp .Or (b :: rest) pos) R) : PDW X ds cs (.BoolOp .Or (a :: b :: rest) pos) R := by
  refine pw_imp (pw_or ha (pw_any (P := fun cs1 => Ra cs1 false) hb)) fun σ H Q ⟨G, A, fr, w, sl, g⟩ => ⟨G, A, fr, w, sl, fun y cs1 G1 A1 H1 r1 e1 a1 l1 w1 => ?_⟩
  cases y with
  | false => exact iteF ⟨cs1, r1, G1, A1, fr, w1, sl.mono e1 a1 l1, g.step e1 a1 l1⟩
  | true => exact iteT ((g.step e1 a1 l1).here (hf _ r1) w1)
theorem pdt_and {Ra R : Cells → Bool → Prop} (ha : PDT X ds cs a Ra) (hf : ∀ cs1, Ra cs1 false → R cs1 false) (hb : ∀ cs1, Ra cs1 true → PDW X ds cs1 (.BoolOp .And (b :: rest) pos) R) : PDT X ds cs (.BoolOp .And (a :: b :: rest) pos) R := PW.pt (pdw_and ha hf hb)
theorem pdt_or {Ra R : Cells → Bool → Prop} (ha : PDT X ds cs a Ra) (hf : ∀ cs1, Ra cs1 true → R cs1 true) (hb : ∀ cs1, Ra cs1 false → PDW X ds cs1 (.BoolOp .Or (b :: rest) pos) R) : PDT X ds cs (.BoolOp .Or (a :: b :: rest) pos) R := PW.pt (pdw_or ha hf hb)
/-- a comparison of two ints as a test -/
theorem pdt_cmp {op : CmpOp} {r : R2} {Ra : Cells → SV → Prop} {Rb : Cells → SV → Cells → SV → Prop} {R : Cells → Bool → Prop} (ho : OpR X (compareOp op) r) (ha : PD X ds cs a Ra) (hb : ∀ cs1 x, Ra cs1 x → PD X ds cs1 b (Rb cs1 x))
    (hr : ∀ cs1 x cs2 y, Ra cs1 x → Rb cs1 x cs2 y → cs1.length ≤ cs2.length → ∃ p, OpD X.K r cs2 x y (Is cs2 (.d (.bool p))) ∧ R cs2 p) (hm : behindInMarks op b = false := by first | exact nobehind _ (by decide) (by decide) | rfl) : PDT X ds cs (.Compare a [op] [b] pos) R := by
  refine pt_imp (pt_cmpR ho ha (pe_any (ι := Cells × SV) (P := fun p => Ra p.1 p.2) (t := fun p => tD X.K ds p.1 (Rb p.1 p.2)) fun p hp => hb p.1 p.2 hp) hm) fun σ H Q ⟨G, A, fr, w, sl, g⟩ => ?_
  refine ⟨G, A, fr, w, sl, fun v x cs1 G1 A1 H1 r1 e1 a1 l1 w1 ok1 => ?_⟩
  refine ⟨(cs1, x), r1, G1, A1, fr, w1, sl.mono e1 a1 l1, fun v2 y cs2 G2 A2 H2 r2 e2 a2 l2 w2 ok2 => ?_⟩
  obtain ⟨p, hd, hp⟩ := hr cs1 x cs2 y r1 r2 l2
  refine hd G2 A2 fr H2 v v2 _ w2 (ok1.mono e2 a2 l2) ok2 fun v3 sv3 cs3 G3 A3 H3 ⟨q1, q2⟩ e3 a3 l3 w3 ok3 => ?_
  subst q1 q2
  cases ok3
  exact ⟨p, rfl, (g.step (e1.trans (e2.trans e3)) ((a1.trans a2 l1).trans a3 (Nat.le_trans l1 l2)) (Nat.le_trans (Nat.le_trans l1 l2) l3)).here hp w3⟩
theorem pvt_cmp {op : CmpOp} {r : R2} {u w : SV} {p : Bool} (ho : OpR X (compareOp op) r) (ha : PV X ds cs a u) (hb : PV X ds cs b w) (hr : OpD X.K r cs u w (Is cs (.d (.bool p)))) (hm : behindInMarks op b = false := by first | exact nobehind _ (by decide) (by decide) | rfl) : PVT X ds cs (.Compare a [op] [b] pos) p :=
  pdt_cmp ho ha (Rb := fun _ _ => Is cs w) (fun cs1 x ⟨e1, _⟩ => by rw [e1]; exact hb) (fun cs1 x cs2 y ⟨e1, e2⟩ ⟨e3, e4⟩ _ => ⟨p, by rw [e2, e3, e4]; exact hr, e3, rfl⟩) hm
/-- a < b < c -/
theorem pv_chain {op op' : CmpOp} {r r' : R2} {u v w : SV} {p q : Bool} (ho : OpR X (compareOp op) r) (ho' : OpR X (compareOp op') r') (ha : PV X ds cs a u) (hb : PV X ds cs b v) (hc : p = true → PV X ds cs c w)
    (h1 : OpD X.K r cs u v (Is cs (.d (.bool p)))) (h2 : p = true → OpD X.K r' cs v w (Is cs (.d (.bool q)))) (hm : lastMarks [op, op'] [b, c] = false := by with_unfolding_all rfl) : PV X ds cs (.Compare a [op, op'] [b, c] pos) (.d (.bool (p && q))) := by
  refine pe_imp (pe_chain ho ho' ha hb (pe_any (P := fun _ : Unit => p = true) fun _ => hc) hm) fun σ H Q ⟨G, A, fr, w0, sl, g⟩ => ?_
  refine ⟨G, A, fr, w0, sl, fun v1 x cs1 G1 A1 H1 ⟨r1, r2⟩ e1 a1 l1 w1 ok1 => ?_⟩
  subst r1 r2
  refine ⟨G1, A1, fr, w1, sl.mono e1 a1 l1, fun v2 y cs2 G2 A2 H2 ⟨r3, r4⟩ e2 a2 l2 w2 ok2 => ?_⟩
  subst r3 r4
  refine h1 G2 A2 fr H2 v1 v2 _ w2 (ok1.mono e2 a2 l2) ok2 fun v3 sv3 cs3 G3 A3 H3 ⟨q1, q2⟩ e3 a3 l3 w3 ok3 => ?_
  subst q1 q2
  cases ok3
  refine ⟨p, rfl, ?_⟩
  cases p with
  | true =>
    refine iteT ⟨(), rfl, G3, A3, fr, w3, sl.mono (e1.trans (e2.trans e3)) ((a1.trans a2 l1).trans a3 (Nat.le_trans l1 l2)) (Nat.le_trans (Nat.le_trans l1 l2) l3), fun v4 z cs4 G4 A4 H4 ⟨r5, r6⟩ e4 a4 l4 w4 ok4 => ?_⟩
    subst r5 r6
    refine h2 rfl G4 A4 fr H4 v2 v4 _ w4 (ok2.mono (e3.trans e4) (a3.trans a4 l3) (Nat.le_trans l3 l4)) ok4 ?_
    exact g.step (e1.trans (e2.trans (e3.trans e4))) (((a1.trans a2 l1).trans a3 (Nat.le_trans l1 l2)).trans a4 (Nat.le_trans (Nat.le_trans l1 l2) l3)) (Nat.le_trans (Nat.le_trans (Nat.le_trans l1 l2) l3) l4)
  | false =>
    exact iteF ((g.step (e1.trans (e2.trans e3)) ((a1.trans a2 l1).trans a3 (Nat.le_trans l1 l2)) (Nat.le_trans (Nat.le_trans l1 l2) l3)).here ⟨rfl, rfl⟩ w3 (.bl _))
theorem pvt_chain {op op' : CmpOp} {r r' : R2} {u v w : SV} {p q : Bool} (ho : OpR X (compareOp op) r) (ho' : OpR X (compareOp op') r') (ha : PV X ds cs a u) (hb : PV X ds cs b v) (hc : p = true → PV X ds cs c w)
    (h1 : OpD X.K r cs u v (Is cs (.d (.bool p)))) (h2 : p = true → OpD X.K r' cs v w (Is cs (.d (.bool q)))) (hm : lastMarks [op, op'] [b, c] = false := by with_unfolding_all rfl) : PVT X ds cs (.Compare a [op, op'] [b, c] pos) (p && q) := by
  refine pt_imp (pt_chain ho ho' ha hb (pe_any (P := fun _ : Unit => p = true) fun _ => hc) hm) fun σ H Q ⟨G, A, fr, w0, sl, g⟩ => ?_
  refine ⟨G, A, fr, w0, sl, fun v1 x cs1 G1 A1 H1 ⟨r1, r2⟩ e1 a1 l1 w1 ok1 => ?_⟩
  subst r1 r2
  refine ⟨G1, A1, fr, w1, sl.mono e1 a1 l1, fun v2 y cs2 G2 A2 H2 ⟨r3, r4⟩ e2 a2 l2 w2 ok2 => ?_⟩
  subst r3 r4
  refine h1 G2 A2 fr H2 v1 v2 _ w2 (ok1.mono e2 a2 l2) ok2 fun v3 sv3 cs3 G3 A3 H3 ⟨q1, q2⟩ e3 a3 l3 w3 ok3 => ?_
  subst q1 q2
  cases ok3
  refine ⟨p, rfl, ?_⟩
  cases p with
  | true =>
    refine iteT ⟨(), rfl, G3, A3, fr, w3, sl.mono (e1.trans (e2.trans e3)) ((a1.trans a2 l1).trans a3 (Nat.le_trans l1 l2)) (Nat.le_trans (Nat.le_trans l1 l2) l3), fun v4 z cs4 G4 A4 H4 ⟨r5, r6⟩ e4 a4 l4 w4 ok4 => ?_⟩
    subst r5 r6
    refine h2 rfl G4 A4 fr H4 v2 v4 _ w4 (ok2.mono (e3.trans e4) (a3.trans a4 l3) (Nat.le_trans l3 l4)) ok4 fun v5 sv5 cs5 G5 A5 H5 ⟨q1, q2⟩ e5 a5 l5 w5 ok5 => ?_
    subst q1 q2
    cases ok5
    exact ⟨q, rfl, (g.step (e1.trans (e2.trans (e3.trans (e4.trans e5)))) ((((a1.trans a2 l1).trans a3 (Nat.le_trans l1 l2)).trans a4 (Nat.le_trans (Nat.le_trans l1 l2) l3)).trans a5 (Nat.le_trans (Nat.le_trans (Nat.le_trans l1 l2) l3) l4)) (Nat.le_trans (Nat.le_trans (Nat.le_trans (Nat.le_trans l1 l2) l3) l4) l5)).here ⟨rfl, rfl⟩ w5⟩
  | false =>
    refine iteF ⟨false, rfl, (g.step (e1.trans (e2.trans e3)) ((a1.trans a2 l1).trans a3 (Nat.le_trans l1 l2)) (Nat.le_trans (Nat.le_trans l1 l2) l3)).here ⟨rfl, rfl⟩ w3⟩

/-! ### argument lists, displays -/
theorem pda_nil {R : Cells → List SV → Prop} (r : R cs []) : PDA X ds cs [] R := pa_imp pa_nil fun σ H Q ⟨G, A, fr, w, sl, g⟩ => g _ _ cs G A H r (Ex.refl G) (AEx.refl _ _) (Nat.le_refl _) w .nil
theorem pda_cons {Ra : Cells → SV → Prop} {Rs : Cells → SV → Cells → List SV → Prop} {R : Cells → List SV → Prop} (ha : PD X ds cs e Ra) (hr : ∀ cs1 x, Ra cs1 x → PDA X ds cs1 es (Rs cs1 x)) (k : ∀ cs1 x cs2 xs, Ra cs1 x → Rs cs1 x cs2 xs → R cs2 (x :: xs))
    (hs : starEach (e :: es) X.env = (false, eval e X.env) :: starEach es X.env := by rfl) : PDA X ds cs (e :: es) R := by
  refine pa_imp (pa_cons ha (pa_any (ι := Cells × SV) (P := fun p => Ra p.1 p.2) (t := fun p => tDA X.K ds p.1 (Rs p.1 p.2)) fun p hp => hr p.1 p.2 hp) hs) fun σ H Q ⟨G, A, fr, w, sl, g⟩ => ?_
  refine ⟨G, A, fr, w, sl, fun v x cs1 G1 A1 H1 r1 e1 a1 l1 w1 ok1 => ?_⟩
  refine ⟨(cs1, x), r1, G1, A1, fr, w1, sl.mono e1 a1 l1, fun vs xs cs2 G2 A2 H2 r2 e2 a2 l2 w2 ok2 => ?_⟩
  exact g _ _ cs2 G2 A2 H2 (k _ _ _ _ r1 r2) (e1.trans e2) (a1.trans a2 l1) (Nat.le_trans l1 l2) w2 (.cons (ok1.mono e2 a2 l2) ok2)
theorem pva_nil : PVA X ds cs [] [] := pda_nil ⟨rfl, rfl⟩
theorem pva_cons {xs : List SV} (ha : PV X ds cs e sv) (hr : PVA X ds cs es xs) (hs : starEach (e :: es) X.env = (false, eval e X.env) :: starEach es X.env := by rfl) : PVA X ds cs (e :: es) (sv :: xs) :=
  pda_cons ha (Rs := fun _ _ => Is cs xs) (fun cs1 x ⟨e1, _⟩ => by rw [e1]; exact hr) (fun cs1 x cs2 ys ⟨_, e2⟩ ⟨e3, e4⟩ => ⟨e3, by rw [e2, e4]⟩) hs
/-- *t at the head of a display or a call -/
theorem pva_star {xs : List SV} {ys : List PyData} {p : Pos} (ha : PV X ds cs e (.d (.tuple ys)) ∨ PV X ds cs e (.d (.list ys))) (hr : PVA X ds cs es xs) (hs : starEach (.Starred e p :: es) X.env = (true, eval e X.env) :: starEach es X.env := by rfl) : PVA X ds cs (.Starred e p :: es) (ys.map SV.d ++ xs) := by
  rcases ha with ha | ha
  all_goals
    refine pa_imp (StX.pa_star ha hr hs) fun σ H Q ⟨G, A, fr, w, sl, g⟩ => ?_
    refine ⟨G, A, fr, w, sl, fun v x cs1 G1 A1 H1 ⟨r1, r2⟩ e1 a1 l1 w1 ok1 => ?_⟩
    subst r1 r2
    obtain ⟨b0, ws, rfl, hg, hall⟩ := (by first | exact dt_tup ok1 | exact dt_lst ok1)
    refine ⟨_, _, rfl, (by first | exact .inl (SqT.of (w1.gh _ _ hg)) | exact .inr (SqL.of (w1.gh _ _ hg))), G1, A1, fr, w1, sl.mono e1 a1 l1, fun vs zs cs2 G2 A2 H2 ⟨r3, r4⟩ e2 a2 l2 w2 ok2 => ?_⟩
    subst r3 r4
    exact g _ _ _ G2 A2 H2 ⟨rfl, rfl⟩ (e1.trans e2) (a1.trans a2 l1) (Nat.le_trans l1 l2) w2 (VOks.append (VOks.of (hall.mono e2)) ok2)
theorem dt_of_voks {K : PySem.W.Frag} {G : Hp} {A : Nat → List Addr} {n : Nat} {vs : List V} {xs : List SV} {ys : List PyData} (h : VOks K G A n vs xs) (e : xs = ys.map SV.d) : DtAll G vs ys := by
  subst e; exact h.all
theorem pd_tup {Ra : Cells → List SV → Prop} {k : Nat} (ha : PDA X ds cs es Ra) (r : ∀ cs1 xs, Ra cs1 xs → ∃ ys : List PyData, xs = ys.map SV.d ∧ ys.length ≤ sizeLine ∧ R cs1 (.d (.tuple ys))) : PD X ds cs (.Tuple es k pos) R := by
  refine pe_imp (pe_tup ha) fun σ H Q ⟨G, A, fr, w, sl, g⟩ => ⟨G, A, fr, w, sl, fun vs xs cs1 G1 A1 H1 r1 e1 a1 l1 w1 ok1 => ?_⟩
  obtain ⟨ys, e, hl, hr⟩ := r cs1 xs r1
  have hd := dt_of_voks ok1 e
  exact ⟨by rw [hd.length]; exact hl, fun p hp => (g.step e1 a1 l1).tup hr w1 hd hp⟩
theorem pd_lst {Ra : Cells → List SV → Prop} (ha : PDA X ds cs es Ra) (r : ∀ cs1 xs, Ra cs1 xs → ∃ ys : List PyData, xs = ys.map SV.d ∧ ys.length ≤ sizeLine ∧ R cs1 (.d (.list ys))) : PD X ds cs (.List es pos) R := by
  refine pe_imp (pe_lst ha) fun σ H Q ⟨G, A, fr, w, sl, g⟩ => ⟨G, A, fr, w, sl, fun vs xs cs1 G1 A1 H1 r1 e1 a1 l1 w1 ok1 => ?_⟩
  obtain ⟨ys, e, hl, hr⟩ := r cs1 xs r1
  have hd := dt_of_voks ok1 e
  exact ⟨by rw [hd.length]; exact hl, fun p hp => (g.step e1 a1 l1).lst hr w1 hd hp⟩
/-- a new list of one's own -/
theorem pd_lstO {Ra : Cells → List SV → Prop} (ha : PDA X ds cs es Ra) (r : ∀ cs1 xs, Ra cs1 xs → ∃ ys : List PyData, xs = ys.map SV.d ∧ ys.length ≤ sizeLine ∧ R (cs1 ++ [some (.lst ys)]) (.own cs1.length)) : PD X ds cs (.List es pos) R := by
  refine pe_imp (pe_lst ha) fun σ H Q ⟨G, A, fr, w, sl, g⟩ => ⟨G, A, fr, w, sl, fun vs xs cs1 G1 A1 H1 r1 e1 a1 l1 w1 ok1 => ?_⟩
  obtain ⟨ys, e, hl, hr⟩ := r cs1 xs r1
  have hd := dt_of_voks ok1 e
  exact ⟨by rw [hd.length]; exact hl, fun p hp => (g.step e1 a1 l1).lstO hr w1 hd hp⟩
theorem pv_tup {xs : List SV} {k : Nat} (ys : List PyData) (ha : PVA X ds cs es xs) (e : xs = ys.map SV.d) (hl : ys.length ≤ sizeLine := by decide) : PV X ds cs (.Tuple es k pos) (.d (.tuple ys)) :=
  pd_tup ha fun cs1 zs ⟨e1, e2⟩ => ⟨ys, e2.trans e, hl, e1, rfl⟩
theorem pv_lst {xs : List SV} (ys : List PyData) (ha : PVA X ds cs es xs) (e : xs = ys.map SV.d) (hl : ys.length ≤ sizeLine := by decide) : PV X ds cs (.List es pos) (.d (.list ys)) :=
  pd_lst ha fun cs1 zs ⟨e1, e2⟩ => ⟨ys, e2.trans e, hl, e1, rfl⟩
end

/-! ### subscripts -/
theorem atI_dt {G : Hp} {vs : List V} {ds : List PyData} {i : Int} {d : PyData} (h : DtAll G vs ds) (e : atI ds i = some d) : ∃ v, atI vs i = some v ∧ Dt G v d := by
  unfold atI at e ⊢
  rw [h.length]
  cases q : ixN ds.length i with
  | none => rw [q] at e; cases e
  | some j =>
    rw [q] at e
    exact h.get e
section
variable {K : PySem.W.Frag} {cs : Cells} {R : Cells → SV → Prop} {i j : Int}
theorem od_ix {xs : List PyData} {d : PyData} (h : atI xs i = some d) (r : R cs (.d d)) : OpD K (rIx K) cs (.d (.list xs)) (.d (.int i)) R := by
  intro G A fr H v w Q W0 h1 h2 k
  cases h2
  cases h1 with
  | lst hg hall =>
    obtain ⟨y, hy, ok⟩ := atI_dt hall h
    exact .inl ⟨_, _, _, y, rfl, rfl, SqL.of (W0.gh _ _ hg), hy, k.here r W0 ok⟩
theorem od_ixT {xs : List PyData} {d : PyData} (h : atI xs i = some d) (r : R cs (.d d)) : OpD K (rIx K) cs (.d (.tuple xs)) (.d (.int i)) R := by
  intro G A fr H v w Q W0 h1 h2 k
  cases h2
  cases h1 with
  | tup hg hall =>
    obtain ⟨y, hy, ok⟩ := atI_dt hall h
    exact .inr (.inl ⟨_, _, _, y, rfl, rfl, SqT.of (W0.gh _ _ hg), hy, k.here r W0 ok⟩)
/-- out of a list of one's own -/
theorem od_ixO {xs : List PyData} {d : PyData} {m : Nat} (hm : cs[m]? = some (some (.lst xs))) (h : atI xs i = some d) (r : R cs (.d d)) : OpD K (rIx K) cs (.own m) (.d (.int i)) R := by
  intro G A fr H v w Q W0 h1 h2 k
  cases h2
  obtain ⟨_, a, l, ea, rfl⟩ := h1
  obtain ⟨a', vs, ea', hH, hall⟩ := W0.cell m _ hm
  rw [ea] at ea'
  cases ea'
  obtain ⟨y, hy, ok⟩ := atI_dt hall h
  exact .inl ⟨_, _, _, y, rfl, rfl, SqL.of hH, hy, k.here r W0 ok⟩
theorem od_ixR {ns : List Int} {n : Int} (h : atI ns i = some n) (r : R cs (.d (.int n))) : OpD K (rIx K) cs (.ro ns) (.d (.int i)) R := by
  intro G A fr H v w Q W0 h1 h2 k
  cases h2
  obtain ⟨a, rfl, hq⟩ := h1
  refine .inl ⟨_, _, _, .int n, rfl, rfl, sqL_mono W0.gh hq, ?_, k.here r W0 (.int n)⟩
  unfold atI at h ⊢
  rw [List.length_map]
  cases q : ixN ns.length i with
  | none => rw [q] at h; cases h
  | some j =>
    rw [q] at h
    show (ns.map V.int)[j]? = _
    rw [List.getElem?_map, (show ns[j]? = some n from h)]
    rfl
end
section
variable {X : Cx} {e a b c : Expr} {es rest : List Expr} {pos : Pos} {ds : Slots} {cs : Cells} {R : Cells → SV → Prop} {x : Str} {sv : SV} {i : Int}
theorem pv_sub_ {u w : SV} (ha : PV X ds cs a u) (hb : PV X ds cs b w) (hr : OpD X.K (rIx X.K) cs u w R) (hs : PlainIx b := by intro _ _; rfl) : PD X ds cs (.Subscript a b pos) R :=
  pd_two (fun _ _ h1 h2 => pe_ix ix_seq h1 h2 hs) ha (Rb := fun _ _ => Is cs w) (fun cs1 x ⟨e1, _⟩ => by rw [e1]; exact hb) fun cs1 x cs2 y ⟨_, e2⟩ ⟨e3, e4⟩ _ => by rw [e2, e3, e4]; exact hr
theorem pd_sub_ {Ra : Cells → SV → Prop} {Rb : Cells → SV → Cells → SV → Prop} (ha : PD X ds cs a Ra) (hb : ∀ cs1 x, Ra cs1 x → PD X ds cs1 b (Rb cs1 x)) (hr : ∀ cs1 x cs2 y, Ra cs1 x → Rb cs1 x cs2 y → cs1.length ≤ cs2.length → OpD X.K (rIx X.K) cs2 x y R) (hs : PlainIx b := by intro _ _; rfl) : PD X ds cs (.Subscript a b pos) R :=
  pd_two (fun _ _ h1 h2 => pe_ix ix_seq h1 h2 hs) ha hb hr
theorem pv_ixL {xs : List PyData} {d : PyData} (ha : PV X ds cs a (.d (.list xs))) (hb : PV X ds cs b (.d (.int i))) (h : atI xs i = some d) (hs : PlainIx b := by intro _ _; rfl) : PV X ds cs (.Subscript a b pos) (.d d) := pv_sub_ ha hb (od_ix h ⟨rfl, rfl⟩) hs
theorem pv_ixT {xs : List PyData} {d : PyData} (ha : PV X ds cs a (.d (.tuple xs))) (hb : PV X ds cs b (.d (.int i))) (h : atI xs i = some d) (hs : PlainIx b := by intro _ _; rfl) : PV X ds cs (.Subscript a b pos) (.d d) := pv_sub_ ha hb (od_ixT h ⟨rfl, rfl⟩) hs
theorem pv_ixO {xs : List PyData} {d : PyData} {m : Nat} (ha : PV X ds cs a (.own m)) (hb : PV X ds cs b (.d (.int i))) (hm : cs[m]? = some (some (.lst xs))) (h : atI xs i = some d) (hs : PlainIx b := by intro _ _; rfl) : PV X ds cs (.Subscript a b pos) (.d d) := pv_sub_ ha hb (od_ixO hm h ⟨rfl, rfl⟩) hs
theorem pv_ixR {ns : List Int} {n : Int} (ha : PV X ds cs a (.ro ns)) (hb : PV X ds cs b (.d (.int i))) (h : atI ns i = some n) (hs : PlainIx b := by intro _ _; rfl) : PV X ds cs (.Subscript a b pos) (.d (.int n)) := pv_sub_ ha hb (od_ixR h ⟨rfl, rfl⟩) hs
/-- left[k][m], left a list of lists of one's own -/
theorem pv_ixM {rs : List (List PyData)} {r : List PyData} {d : PyData} {m : Nat} {j : Int} {b2 : Expr} {pos2 : Pos} (ha : PV X ds cs a (.own m)) (hb : PV X ds cs b (.d (.int i))) (hb2 : PV X ds cs b2 (.d (.int j))) (hm : cs[m]? = some (some (.mat rs))) (h1 : atI rs i = some r) (h2 : atI r j = some d)
    (hs : PlainIx b := by intro _ _; rfl) (hs2 : PlainIx b2 := by intro _ _; rfl) : PV X ds cs (.Subscript (.Subscript a b pos) b2 pos2) (.d d) := by
  refine pe_imp (pe_ix ix_seq (pe_ix ix_seq ha hb hs) hb2 hs2) fun σ H Q ⟨G, A, fr, w, sl, g⟩ => ?_
  refine ⟨G, A, fr, w, sl, fun v x cs1 G1 A1 H1 ⟨r1, r2⟩ e1 a1 l1 w1 ok1 => ?_⟩
  subst r1 r2
  refine ⟨G1, A1, fr, w1, sl.mono e1 a1 l1, fun v2 y cs2 G2 A2 H2 ⟨r3, r4⟩ e2 a2 l2 w2 ok2 => ?_⟩
  subst r3 r4
  cases ok2
  obtain ⟨_, c0, l0, ec, rfl⟩ := ok1.mono e2 a2 l2
  obtain ⟨c1, bs, ec', hH, hrows⟩ := w2.cell m _ hm
  rw [ec] at ec'
  cases ec'
  have hx : ∃ b0 vs, atI (l0.map V.ref) i = some (.ref b0) ∧ b0 ∈ l0 ∧ H2 b0 = some (.lst vs) ∧ DtAll G2 vs r := by
    unfold atI at h1 ⊢
    rw [List.length_map, hrows.length]
    cases q : ixN rs.length i with
    | none => rw [q] at h1; cases h1
    | some k =>
      rw [q] at h1
      obtain ⟨b0, vs, q1, q2, q3⟩ := hrows.get h1
      refine ⟨b0, vs, ?_, List.mem_of_getElem? q1, q2, q3⟩
      show (l0.map V.ref)[k]? = _
      rw [List.getElem?_map, q1]; rfl
  obtain ⟨b0, vs, q1, qm, q2, q3⟩ := hx
  refine .inl ⟨_, _, _, _, rfl, rfl, SqL.of hH, q1, G2, A2, fr, w2, sl.mono (e1.trans e2) (a1.trans a2 l1) (Nat.le_trans l1 l2), fun v3 z cs3 G3 A3 H3 ⟨r5, r6⟩ e3 a3 l3 w3 ok3 => ?_⟩
  subst r5 r6
  cases ok3
  have ec3 : A3 m = c0 :: l0 := (a3 m (List.getElem?_eq_some_iff.mp hm).1).trans ec
  obtain ⟨c3, bs3, ec', hH3, hrows3⟩ := w3.cell m _ hm
  rw [ec3] at ec'
  cases ec'
  have hx3 : ∃ vs, H3 b0 = some (.lst vs) ∧ DtAll G3 vs r := by
    unfold atI at h1 q1
    rw [List.length_map, hrows.length] at q1
    cases q : ixN rs.length i with
    | none => rw [q] at h1; cases h1
    | some k =>
      rw [q] at h1 q1
      obtain ⟨b3, vs3, p1, p2, p3⟩ := hrows3.get h1
      have q1' : (l0.map V.ref)[k]? = some (.ref b0) := q1
      rw [List.getElem?_map, p1] at q1'
      cases q1'
      exact ⟨vs3, p2, p3⟩
  obtain ⟨vs3, p2, p3⟩ := hx3
  obtain ⟨y, hy, ok⟩ := atI_dt p3 h2
  exact .inl ⟨_, _, _, y, rfl, rfl, SqL.of p2, hy, (g.step (e1.trans (e2.trans e3)) ((a1.trans a2 l1).trans a3 (Nat.le_trans l1 l2)) (Nat.le_trans (Nat.le_trans l1 l2) l3)).here ⟨rfl, rfl⟩ w3 ok⟩
end
/-! slices -/
def cutD {α : Type} (xs : List α) (lo hi : Option Int) : List α := (xs.drop (HT.sIx xs.length 0 lo)).take (HT.sIx xs.length xs.length hi - HT.sIx xs.length 0 lo)
theorem cut_dt {G : Hp} {vs : List V} {ds : List PyData} (h : DtAll G vs ds) (lo hi : Option Int) : DtAll G (cutV vs lo hi) (cutD ds lo hi) := by
  unfold cutV cutD
  rw [h.length]
  exact (h.drop _).take _
def PVO (X : Cx) (ds : Slots) (cs : Cells) (e : Option Expr) (o : Option Int) : Prop := match e, o with
  | none, none => True
  | some e, some i => PV X ds cs e (.d (.int i))
  | _, _ => False
def tDO (K : PySem.W.Frag) (ds : Slots) (cs : Cells) (o : Option Int) : TO := fun σ H Q => ∃ G A fr, W G A cs fr H ∧ Sl K G A cs.length σ ds ∧ ∀ G' A' H', Ex G G' → AEx cs.length A A' → W G' A' cs fr H' → Q o H'
section
variable {X : Cx} {e a b c : Expr} {es rest : List Expr} {pos : Pos} {ds : Slots} {cs : Cells} {R : Cells → SV → Prop} {x : Str} {sv : SV} {i : Int} {lo hi : Option Expr} {ol oh : Option Int} {p2 : Pos}
theorem po_imp {t t' : TO} {e : Option Expr} (h : PO X e t) (k : ∀ σ H Q, t' σ H Q → t σ H Q) : PO X e t' := ⟨fun pins s σ H Q I q => h.run pins s σ H Q I (k σ H Q q)⟩
theorem PVO.po : ∀ {e : Option Expr} {o : Option Int}, PVO X ds cs e o → PO X e (tDO X.K ds cs o)
  | none, none, _ => po_imp po_none fun σ H Q ⟨G, A, fr, w, sl, g⟩ => g G A H (Ex.refl G) (AEx.refl _ _) w
  | some e, some i, h => po_imp (po_some (te := tD X.K ds cs (Is cs (.d (.int i)))) h) fun σ H Q ⟨G, A, fr, w, sl, g⟩ => ⟨G, A, fr, w, sl, fun v x cs1 G1 A1 H1 ⟨r1, r2⟩ e1 a1 l1 w1 ok1 => by
      subst r1 r2
      cases ok1
      exact ⟨i, rfl, g G1 A1 H1 e1 a1 w1⟩⟩
theorem pv_slice {r : V → Option Int → Option Int → Hp → VK → Prop} {u : SV} (hr : SlR X r) (ha : PV X ds cs a u) (hl : PVO X ds cs lo ol) (hh : PVO X ds cs hi oh)
    (k : ∀ G A fr H v Q, W G A cs fr H → VOk X.K G A cs.length v u → Go X.K G A cs.length fr R Q → r v ol oh H Q) : PD X ds cs (.Subscript a (.Slice lo hi none p2) pos) R := by
  refine pe_imp (pe_slice hr ha hl.po hh.po) fun σ H Q ⟨G, A, fr, w, sl, g⟩ => ?_
  refine ⟨G, A, fr, w, sl, fun v x cs1 G1 A1 H1 ⟨r1, r2⟩ e1 a1 l1 w1 ok1 => ?_⟩
  subst r1 r2
  refine ⟨G1, A1, fr, w1, sl.mono e1 a1 l1, fun G2 A2 H2 e2 a2 w2 => ⟨G2, A2, fr, w2, sl.mono (e1.trans e2) (a1.trans a2 l1) l1, fun G3 A3 H3 e3 a3 w3 => ?_⟩⟩
  exact k G3 A3 fr H3 v Q w3 (ok1.mono (e2.trans e3) (a2.trans a3 (Nat.le_refl _)) (Nat.le_refl _)) (g.step (e1.trans (e2.trans e3)) ((a1.trans a2 l1).trans a3 l1) l1)
theorem pv_sliceL {xs : List PyData} (ha : PV X ds cs a (.d (.list xs))) (hl : PVO X ds cs lo ol) (hh : PVO X ds cs hi oh) : PV X ds cs (.Subscript a (.Slice lo hi none p2) pos) (.d (.list (cutD xs ol oh))) :=
  pv_slice sl_list ha hl hh fun G A fr H v Q w ok g => by
    cases ok with
    | lst hg hall => exact ⟨_, _, rfl, SqL.of (w.gh _ _ hg), fun p hp => g.lst ⟨rfl, rfl⟩ w (cut_dt hall ol oh) hp⟩
theorem cut_whole {α : Type} {xs : List α} {lo hi : Option Int} (h : HT.sIx xs.length 0 lo = 0 ∧ HT.sIx xs.length xs.length hi = xs.length) : cutD xs lo hi = xs := by
  unfold cutD
  rw [h.1, h.2]
  simp
theorem pv_sliceT {xs : List PyData} (ha : PV X ds cs a (.d (.tuple xs))) (hl : PVO X ds cs lo ol) (hh : PVO X ds cs hi oh) : PV X ds cs (.Subscript a (.Slice lo hi none p2) pos) (.d (.tuple (cutD xs ol oh))) :=
  pv_slice sl_tupA ha hl hh fun G A fr H v Q w ok g => by
    have ok' := id ok
    cases ok' with
    | tup hg hall =>
      refine ⟨_, _, rfl, SqT.of (w.gh _ _ hg), fun hw => ?_, fun _ p hp => g.tup ⟨rfl, rfl⟩ w (cut_dt hall ol oh) hp⟩
      rw [hall.length] at hw
      exact g.here ⟨rfl, by rw [cut_whole hw]⟩ w ok
theorem pv_sliceR {ns : List Int} (ha : PV X ds cs a (.ro ns)) (hl : PVO X ds cs lo ol) (hh : PVO X ds cs hi oh) : PV X ds cs (.Subscript a (.Slice lo hi none p2) pos) (.d (.list ((cutD ns ol oh).map PyData.int))) :=
  pv_slice sl_list ha hl hh fun G A fr H v Q w ok g => by
    obtain ⟨p0, rfl, hq⟩ := ok
    refine ⟨_, _, rfl, sqL_mono w.gh hq, fun p hp => g.lst ⟨rfl, rfl⟩ w ?_ hp⟩
    have e : cutV (ns.map V.int) ol oh = (cutD ns ol oh).map V.int := by
      unfold cutV cutD
      rw [List.length_map, ← List.map_drop, ← List.map_take]
    rw [e]
    exact .ofInts _

/-! ### calls of built-ins -/
variable {p : Pos} {id T : String} {r : List V → Hp → VK → Prop}
theorem pd_callB {Ra : Cells → List SV → Prop} (hc : CallR X (.builtin id) r) (hv : bootBuiltins x = some (.builtin id)) (hm : X.mg x = none) (ha : PDA X ds cs (e :: es) Ra) (k : ∀ cs1 xs, Ra cs1 xs → CallD X.K r cs1 xs R) (hg : Gl X x := by rfl) (hn : x ≠ "__name__" := by decide) (hdb : (x == ("__debug__" : Str)) = false := by decide)
    (he : starEach (e :: es) X.env = (false, eval e X.env) :: starEach es X.env := by rfl) (hpl : (backTo pos (starEach es X.env)).any (·.1) = false := by rfl) : PD X ds cs (.Call (.Name x p) (e :: es) [] pos) R := by
  refine pe_imp (pe_callB hc hg hm hv ha hn hdb he hpl) fun σ H Q ⟨G, A, fr, w, sl, g⟩ => ⟨G, A, fr, w, sl, fun vs xs cs1 G1 A1 H1 r1 e1 a1 l1 w1 ok1 => ?_⟩
  exact k cs1 xs r1 G1 A1 fr H1 vs Q w1 ok1 (g.step e1 a1 l1)
theorem pd_callTy {Ra : Cells → List SV → Prop} (hc : CallR X (.type T) r) (hv : bootBuiltins x = some (.type T)) (hm : X.mg x = none) (ha : PDA X ds cs (e :: es) Ra) (k : ∀ cs1 xs, Ra cs1 xs → CallD X.K r cs1 xs R) (hg : Gl X x := by rfl) (hn : x ≠ "__name__" := by decide) (hdb : (x == ("__debug__" : Str)) = false := by decide)
    (he : starEach (e :: es) X.env = (false, eval e X.env) :: starEach es X.env := by rfl) (hpl : (backTo pos (starEach es X.env)).any (·.1) = false := by rfl) : PD X ds cs (.Call (.Name x p) (e :: es) [] pos) R := by
  refine pe_imp (pe_callTy hc hg hm hv ha hn hdb he hpl) fun σ H Q ⟨G, A, fr, w, sl, g⟩ => ⟨G, A, fr, w, sl, fun vs xs cs1 G1 A1 H1 r1 e1 a1 l1 w1 ok1 => ?_⟩
  exact k cs1 xs r1 G1 A1 fr H1 vs Q w1 ok1 (g.step e1 a1 l1)
theorem pv_callB {xs : List SV} (hc : CallR X (.builtin id) r) (hv : bootBuiltins x = some (.builtin id)) (hm : X.mg x = none) (ha : PVA X ds cs (e :: es) xs) (k : CallD X.K r cs xs R) (hg : Gl X x := by rfl) (hn : x ≠ "__name__" := by decide) (hdb : (x == ("__debug__" : Str)) = false := by decide)
    (he : starEach (e :: es) X.env = (false, eval e X.env) :: starEach es X.env := by rfl) (hpl : (backTo pos (starEach es X.env)).any (·.1) = false := by rfl) : PD X ds cs (.Call (.Name x p) (e :: es) [] pos) R :=
  pd_callB hc hv hm ha (fun cs1 ys ⟨e1, e2⟩ => by rw [e1, e2]; exact k) hg hn hdb he hpl
theorem pv_callTy {xs : List SV} (hc : CallR X (.type T) r) (hv : bootBuiltins x = some (.type T)) (hm : X.mg x = none) (ha : PVA X ds cs (e :: es) xs) (k : CallD X.K r cs xs R) (hg : Gl X x := by rfl) (hn : x ≠ "__name__" := by decide) (hdb : (x == ("__debug__" : Str)) = false := by decide)
    (he : starEach (e :: es) X.env = (false, eval e X.env) :: starEach es X.env := by rfl) (hpl : (backTo pos (starEach es X.env)).any (·.1) = false := by rfl) : PD X ds cs (.Call (.Name x p) (e :: es) [] pos) R :=
  pd_callTy hc hv hm ha (fun cs1 ys ⟨e1, e2⟩ => by rw [e1, e2]; exact k) hg hn hdb he hpl
end
end DL
set_option Elab.async false
set_option linter.all false
set_option maxRecDepth 100000
set_option maxHeartbeats 2000000
/-! DL4: iterators over data, targets, list comprehensions. -/
namespace DL
open PySem PySem.Spec PyProof.Rows L2

/-- J yields the items xs, as long as the heap knows G -/
structure IterOk (J : It) (G : Hp) (xs : List PyData) : Prop where
  go : ∀ i H, Ex G H → i < xs.length → J.go i H
  stop : ∀ i H, Ex G H → xs.length ≤ i → J.stop i H
  yld : ∀ i H v H', Ex G H → J.yld i H v H' → ∀ x, xs[i]? = some x → (H' = H ∧ Dt G v x) ∨ (∃ T vs es, v = .ref T ∧ H T = none ∧ H' = upd H T (.tup vs) ∧ DtAll G vs es ∧ x = .tuple es)
theorem IterOk.mono {J : It} {G G' : Hp} {xs : List PyData} (h : IterOk J G xs) (e : Ex G G') : IterOk J G' xs :=
  ⟨fun i H a l => h.go i H (e.trans a) l, fun i H a l => h.stop i H (e.trans a) l, fun i H v H' a y x q => by
    rcases h.yld i H v H' (e.trans a) y x q with ⟨h1, h2⟩ | ⟨T, vs, es, h1, h2, h3, h4, h5⟩
    · exact .inl ⟨h1, h2.mono e⟩
    · exact .inr ⟨T, vs, es, h1, h2, h3, h4.mono e, h5⟩⟩
def tDI (K : PySem.W.Frag) (ds : Slots) (cs : Cells) (xs : List PyData) : TI := fun σ H R => ∃ G A fr, W G A cs fr H ∧ Sl K G A cs.length σ ds ∧ ∀ J H' G' A', Ex G G' → AEx cs.length A A' → W G' A' cs fr H' → IterOk J G' xs → R J H'
def PVI (X : Cx) (ds : Slots) (cs : Cells) (tg iter : Expr) (xs : List PyData) : Prop := PI X tg iter (tDI X.K ds cs xs)
theorem pi_imp {X : Cx} {tg iter : Expr} {t t' : TI} (h : PI X tg iter t) (k : ∀ σ H Q, t' σ H Q → t σ H Q) : PI X tg iter t' := ⟨fun pins s σ H Q I q => h.run pins s σ H Q I (k σ H Q q)⟩
theorem pi_any {X : Cx} {tg iter : Expr} {ι : Type} {P : ι → Prop} {t : ι → TI} (h : ∀ i, P i → PI X tg iter (t i)) : PI X tg iter (fun σ H Q => ∃ i, P i ∧ t i σ H Q) := ⟨fun pins s σ H Q I ⟨i, p, q⟩ => (h i p).run pins s σ H Q I q⟩
section
variable {K : PySem.W.Frag} {G : Hp} {a : Addr} {vs : List V} {xs : List PyData}
theorem iterOk_list (h : G a = some (.lst vs)) (hd : DtAll G vs xs) : IterOk (Itl K a) G xs := by
  refine ⟨fun i H e l => ?_, fun i H e l => ⟨vs, SqL.of (e _ _ h), by rw [hd.length]; exact l⟩, fun i H v H' e y x q => ?_⟩
  · have hl : i < vs.length := by rw [hd.length]; exact l
    exact ⟨vs, vs[i], SqL.of (e _ _ h), by simp [hl]⟩
  · obtain ⟨e1, y⟩ := y
    have hv := y vs (SqL.of (e _ _ h))
    obtain ⟨d, h1, h2⟩ := hd.get' hv
    rw [h1] at q
    cases q
    exact .inl ⟨e1, h2⟩
theorem iterOk_tup (h : G a = some (.tup vs)) (hd : DtAll G vs xs) : IterOk (Itt K a) G xs := by
  refine ⟨fun i H e l => ?_, fun i H e l => ⟨vs, SqT.of (e _ _ h), by rw [hd.length]; exact l⟩, fun i H v H' e y x q => ?_⟩
  · have hl : i < vs.length := by rw [hd.length]; exact l
    exact ⟨vs, vs[i], SqT.of (e _ _ h), by simp [hl]⟩
  · obtain ⟨e1, y⟩ := y
    have hv := y vs (SqT.of (e _ _ h))
    obtain ⟨d, h1, h2⟩ := hd.get' hv
    rw [h1] at q
    cases q
    exact .inl ⟨e1, h2⟩
/-- the items of range(lo, lo + n) -/
def rgD (lo : Int) (n : Nat) : List PyData := (List.range n).map fun i => .int (lo + (i : Nat))
theorem rgD_length (lo : Int) (n : Nat) : (rgD lo n).length = n := by simp [rgD]
theorem rgD_get {lo : Int} {n i : Nat} {x : PyData} (h : (rgD lo n)[i]? = some x) : i < n ∧ x = .int (lo + (i : Nat)) := by
  unfold rgD at h
  rw [List.getElem?_map] at h
  by_cases hi : i < n
  · rw [List.getElem?_range hi] at h
    exact ⟨hi, (Option.some.inj h).symm⟩
  · rw [List.getElem?_eq_none (by simpa using hi)] at h
    cases h
theorem iterOk_range {lo : Int} {n : Nat} : IterOk (Itr lo n) G (rgD lo n) := by
  refine ⟨fun i H e l => by rw [rgD_length] at l; exact l, fun i H e l => by rw [rgD_length] at l; exact l, fun i H v H' e y x q => ?_⟩
  obtain ⟨e1, y⟩ := y
  obtain ⟨h1, h2⟩ := rgD_get q
  subst h2 y
  exact .inl ⟨e1, .int _⟩
/-- the items of enumerate -/
def enD (xs : List PyData) : List PyData := xs.zipIdx.map fun p => .tuple [.int (p.2 : Nat), p.1]
theorem enD_length (xs : List PyData) : (enD xs).length = xs.length := by simp [enD]
theorem enD_get {xs : List PyData} {i : Nat} {x : PyData} (h : (enD xs)[i]? = some x) : ∃ y, xs[i]? = some y ∧ x = .tuple [.int (i : Nat), y] := by
  unfold enD at h
  rw [List.getElem?_map, List.getElem?_zipIdx] at h
  cases q : xs[i]? with
  | none => rw [q] at h; cases h
  | some y =>
    rw [q] at h
    have h' := (Option.some.inj h).symm
    refine ⟨y, rfl, ?_⟩
    simpa using h'
theorem iterOk_enum (h : G a = some (.lst vs)) (hd : DtAll G vs xs) : IterOk (Ite K a) G (enD xs) := by
  refine ⟨fun i H e l => ?_, fun i H e l => ⟨vs, SqL.of (e _ _ h), by rw [hd.length]; rw [enD_length] at l; exact l⟩, fun i H v H' e y x q => ?_⟩
  · rw [enD_length] at l
    have hl : i < vs.length := by rw [hd.length]; exact l
    exact ⟨vs, vs[i], SqL.of (e _ _ h), by simp [hl]⟩
  · obtain ⟨T, v0, e1, e2, e3, y⟩ := y
    have hv := y vs (SqL.of (e _ _ h))
    obtain ⟨d, h1, h2⟩ := enD_get q
    obtain ⟨d', h3, h4⟩ := hd.get' hv
    rw [h1] at h3
    cases h3
    exact .inr ⟨T, _, _, e1, e2, e3, .cons (.int _) (.cons h4 .nil), h2⟩
end
section
variable {X : Cx} {tg iter e : Expr} {ds : Slots} {cs : Cells} {xs : List PyData} {pos p : Pos}
theorem pvi_list (h : PV X ds cs e (.d (.list xs))) : PVI X ds cs tg e xs := pi_imp (pi_list h) fun σ H Q ⟨G, A, fr, w, sl, g⟩ => ⟨G, A, fr, w, sl, fun v x cs1 G1 A1 H1 ⟨r1, r2⟩ e1 a1 l1 w1 ok1 => by
  subst r1 r2
  obtain ⟨a, vs, rfl, hg, hall⟩ := dt_lst ok1
  exact ⟨a, rfl, ⟨vs, SqL.of (w1.gh _ _ hg)⟩, g _ H1 G1 A1 e1 a1 w1 (iterOk_list hg hall)⟩⟩
theorem pvi_tup (h : PV X ds cs e (.d (.tuple xs))) : PVI X ds cs tg e xs := pi_imp (pi_tup h) fun σ H Q ⟨G, A, fr, w, sl, g⟩ => ⟨G, A, fr, w, sl, fun v x cs1 G1 A1 H1 ⟨r1, r2⟩ e1 a1 l1 w1 ok1 => by
  subst r1 r2
  obtain ⟨a, vs, rfl, hg, hall⟩ := dt_tup ok1
  exact ⟨a, rfl, ⟨vs, SqT.of (w1.gh _ _ hg)⟩, g _ H1 G1 A1 e1 a1 w1 (iterOk_tup hg hall)⟩⟩
/-- range(n) -/
theorem pvi_range {n : Int} (hm : X.mg "range" = none) (ha : PVA X ds cs [e] [.d (.int n)]) (hn : 0 ≤ n ∧ n < 2 ^ 62) (hg : Gl X "range" := by rfl) (hs : starEach [e] X.env = [(false, eval e X.env)] := by rfl) : PVI X ds cs tg (.Call (.Name "range" p) [e] [] pos) (rgD 0 n.toNat) :=
  pi_imp (pi_range1 hg hm ha hs) fun σ H Q ⟨G, A, fr, w, sl, g⟩ => ⟨G, A, fr, w, sl, fun v x cs1 G1 A1 H1 ⟨r1, r2⟩ e1 a1 l1 w1 ok1 => by
    subst r1 r2
    cases ok1 with
    | cons h1 h2 =>
      cases h2
      cases h1
      exact ⟨n, rfl, by omega, by omega, g _ H1 G1 A1 e1 a1 w1 iterOk_range⟩⟩
/-- range(a, b) -/
theorem pvi_range2 {lo hi : Int} {e2 : Expr} (hm : X.mg "range" = none) (ha : PVA X ds cs [e, e2] [.d (.int lo), .d (.int hi)]) (h1 : -(2 ^ 62) ≤ lo ∧ lo < 2 ^ 62) (h2 : -(2 ^ 62) ≤ hi ∧ hi < 2 ^ 62) (hg : Gl X "range" := by rfl) (hs : starEach [e, e2] X.env = [(false, eval e X.env), (false, eval e2 X.env)] := by rfl) (hs2 : starEach [e2] X.env = [(false, eval e2 X.env)] := by rfl) : PVI X ds cs tg (.Call (.Name "range" p) [e, e2] [] pos) (rgD lo (hi - lo).toNat) :=
  pi_imp (pi_range2 hg hm ha hs hs2) fun σ H Q ⟨G, A, fr, w, sl, g⟩ => ⟨G, A, fr, w, sl, fun v x cs1 G1 A1 H1 ⟨r1, r2⟩ e1 a1 l1 w1 ok1 => by
    subst r1 r2
    cases ok1 with
    | cons k1 k2 =>
      cases k2 with
      | cons k3 k4 =>
        cases k4
        cases k1
        cases k3
        exact ⟨lo, hi, rfl, ⟨h1.1, h1.2, h2.1, h2.2⟩, g _ H1 G1 A1 e1 a1 w1 iterOk_range⟩⟩
theorem pvi_enum {elts : List Expr} {kk : Nat} {tpos : Pos} (hm : X.mg "enumerate" = none) (ha : PVA X ds cs [e] [.d (.list xs)]) (hg : Gl X "enumerate" := by rfl) (hs : starEach [e] X.env = [(false, eval e X.env)] := by rfl) : PVI X ds cs (.Tuple elts kk tpos) (.Call (.Name "enumerate" p) [e] [] pos) (enD xs) :=
  pi_imp (pi_enum hg hm ha hs) fun σ H Q ⟨G, A, fr, w, sl, g⟩ => ⟨G, A, fr, w, sl, fun v x cs1 G1 A1 H1 ⟨r1, r2⟩ e1 a1 l1 w1 ok1 => by
    subst r1 r2
    cases ok1 with
    | cons h1 h2 =>
      cases h2
      obtain ⟨a, vs, rfl, hg, hall⟩ := dt_lst h1
      exact ⟨a, vs, rfl, SqL.of (w1.gh _ _ hg), g _ H1 G1 A1 e1 a1 w1 (iterOk_enum hg hall)⟩⟩
end

/-! ### targets -/
def SameOff (js : List Nat) (σ σ' : L2.St) : Prop := σ'.length = σ.length ∧ ∀ i, i ∉ js → σ'[i]? = σ[i]?
/-- what a target does to the names -/
def GD (K : PySem.W.Frag) (g : TG) (js : List Nat) (f : Slots → PyData → Option Slots) : Prop :=
  ∀ (v : V) (x : PyData) (σ : L2.St) (H : Hp) (Q : L2.St → Hp → Prop) (ds ds' : Slots) (G : Hp) (A : Nat → List Addr) (n : Nat), Sl K G A n σ ds → Ex G H → Dt G v x → f ds x = some ds' → (∀ σ', Sl K G A n σ' ds' → SameOff js σ σ' → Q σ' H) → g v σ H Q
def fName (j : Nat) : Slots → PyData → Option Slots := fun ds x => some (ds.set j (some (.d x)))
theorem sameOff_set {j : Nat} {js : List Nat} {σ : L2.St} {o : Option V} (h : j ∈ js) : SameOff js σ (σ.set j o) := ⟨by simp, fun i hi => by rw [List.getElem?_set_ne (fun e => hi (by rw [← e]; exact h))]⟩
theorem SameOff.trans {js : List Nat} {a b c : L2.St} (h : SameOff js a b) (k : SameOff js b c) : SameOff js a c := ⟨k.1.trans h.1, fun i hi => (k.2 i hi).trans (h.2 i hi)⟩
theorem gd_name {K : PySem.W.Frag} {j : Nat} : GD K (gName j) [j] (fName j) := fun v x σ H Q ds ds' G A n sl e ok hf k => by
  cases hf
  exact k _ (sl.set j ok) (sameOff_set (by simp))
def fPair (i j : Nat) : Slots → PyData → Option Slots
  | ds, .tuple [x, y] => some ((ds.set i (some (.d x))).set j (some (.d y)))
  | _, _ => none
theorem gd_pair {K : PySem.W.Frag} {i j : Nat} : GD K (gTup K 2 (gCons (gName i) (gCons (gName j) gNil))) [i, j] (fPair i j) := fun v x σ H Q ds ds' G A n sl e ok hf k => by
  unfold fPair at hf
  split at hf
  · rename_i ds x y
    cases hf
    obtain ⟨a, vs, rfl, hg, hall⟩ := dt_tup ok
    cases hall with
    | cons h1 h2 =>
      cases h2 with
      | cons h3 h4 =>
        cases h4
        exact ⟨a, _, rfl, SqT.of (e _ _ hg), rfl, _, _, rfl, _, _, rfl, rfl, k _ ((sl.set i (sv := .d x) h1).set j (sv := .d y) h3) ((sameOff_set (by simp)).trans (sameOff_set (by simp)))⟩
  · cases hf

/-! ### comprehensions -/
def wipeD (ds : Slots) : List Nat → Slots
  | [] => ds
  | v :: vs => (wipeD ds vs).set v none
theorem Sl.wipe {K : PySem.W.Frag} {G : Hp} {A : Nat → List Addr} {n : Nat} {σ : L2.St} {ds : Slots} (h : Sl K G A n σ ds) : ∀ vs, Sl K G A n (wipe σ vs) (wipeD ds vs)
  | [] => h
  | v :: vs => (Sl.wipe h vs).unset v none
theorem wipe_get (σ : L2.St) : ∀ (vs : List Nat) (i : Nat), (wipe σ vs)[i]? = if i ∈ vs then (if i < σ.length then some none else none) else σ[i]?
  | [], i => by simp [wipe]
  | v :: vs, i => by
    unfold wipe
    by_cases e : v = i
    · subst e
      by_cases hi : v < σ.length
      · rw [List.getElem?_set_self (by rw [wipe_length]; exact hi)]
        simp [hi]
      · rw [List.getElem?_eq_none (by rw [List.length_set, wipe_length]; omega)]
        simp [hi]
    · rw [List.getElem?_set_ne e, wipe_get σ vs i]
      have e' : ¬ i = v := fun z => e z.symm
      simp [List.mem_cons, e']
theorem wipe_off {σ σ' : L2.St} {js vs : List Nat} (h : SameOff js σ σ') (k : ∀ j ∈ js, j ∈ vs) : L2.wipe σ' vs = L2.wipe σ vs := by
  apply List.ext_getElem?
  intro i
  rw [wipe_get, wipe_get, h.1]
  by_cases e : i ∈ vs
  · rw [if_pos e, if_pos e]
  · rw [if_neg e, if_neg e, h.2 i (fun z => e (k i z))]
theorem wipe_wipe (σ : L2.St) (vs : List Nat) : L2.wipe (L2.wipe σ vs) vs = L2.wipe σ vs := by
  apply List.ext_getElem?
  intro i
  rw [wipe_get, wipe_get, wipe_length]
  by_cases e : i ∈ vs <;> simp [e]
abbrev Blk (X : Cx) (scope : Scope) (P : Cx → Prop) : Prop := ∀ (s : Shared) (H : Hp) (C : Addr) (cl : List (Str × Addr)) (fp : List Addr), P (X.blk s H scope (compEnvC scope cl C X.env) fp)
def PVTs (X : Cx) (ds : Slots) (cs : Cells) (ifs : List Expr) (R : Cells → Bool → Prop) : Prop := PTs X ifs (tDB X.K ds cs R)
theorem pts_imp {X : Cx} {ifs : List Expr} {t t' : TT} (h : PTs X ifs t) (k : ∀ σ H Q, t' σ H Q → t σ H Q) : PTs X ifs t' := ⟨fun pins s σ H Q I q => h.run pins s σ H Q I (k σ H Q q)⟩
theorem pts_any {X : Cx} {ifs : List Expr} {ι : Type} {P : ι → Prop} {t : ι → TT} (h : ∀ i, P i → PTs X ifs (t i)) : PTs X ifs (fun σ H Q => ∃ i, P i ∧ t i σ H Q) := ⟨fun pins s σ H Q I ⟨i, p, q⟩ => (h i p).run pins s σ H Q I q⟩
theorem pvts_nil {X : Cx} {ds : Slots} {cs : Cells} {R : Cells → Bool → Prop} (r : R cs true) : PVTs X ds cs [] R := pts_imp pts_nil fun σ H Q ⟨G, A, fr, w, sl, g⟩ => g.here r w
theorem pvts_one {X : Cx} {ds : Slots} {cs : Cells} {c : Expr} {R : Cells → Bool → Prop} (h : PDT X ds cs c R) : PVTs X ds cs [c] R := pts_one h
/-- less frame -/
theorem W.less {G : Hp} {A : Nat → List Addr} {cs : Cells} {fr fr' H : Hp} (w : W G A cs fr H) (e : Ex fr' fr) : W G A cs fr' H :=
  ⟨w.gh, e.trans w.fh, fun a o q => w.gf a o (e a o q), w.cell, w.nd, fun k c q a ha => ⟨(w.own k c q a ha).1, e.fresh (w.own k c q a ha).2⟩, w.apart⟩
/-- an object that is in no cell and not data is written -/
theorem W.side {G : Hp} {A : Nat → List Addr} {cs : Cells} {fr H : Hp} {D : Addr} {o : HO} (w : W G A cs fr H) (hg : G D = none) (hf : fr D = none) (hc : ∀ k c, cs[k]? = some (some c) → D ∉ A k) : W G A cs fr (upd H D o) :=
  ⟨w.gh.mut hg, w.fh.mut hf, w.gf, fun k c q => (w.cell k c q).mono (Ex.refl _) fun a ha o h => by rw [upd_ne (fun e => hc k c q (by rw [← e]; exact ha))]; exact h, w.nd, w.own, w.apart⟩
/-- .. and put into the frame -/
theorem W.guard {G : Hp} {A : Nat → List Addr} {cs : Cells} {fr H : Hp} {D : Addr} {o : HO} (w : W G A cs fr H) (hH : H D = some o) (hg : G D = none) (hf : fr D = none) (hc : ∀ k c, cs[k]? = some (some c) → D ∉ A k) : W G A cs (upd fr D o) H := by
  refine ⟨w.gh, fun a u q => ?_, fun a u q => ?_, w.cell, w.nd, fun k c q a ha => ⟨(w.own k c q a ha).1, ?_⟩, w.apart⟩
  · by_cases e : a = D
    · subst e; rw [upd_same] at q; cases q; exact hH
    · rw [upd_ne e] at q; exact w.fh a u q
  · by_cases e : a = D
    · subst e; exact hg
    · rw [upd_ne e] at q; exact w.gf a u q
  · rw [upd_ne (fun e => hc k c q (by rw [← e]; exact ha))]; exact (w.own k c q a ha).2
theorem W.unguard {G : Hp} {A : Nat → List Addr} {cs : Cells} {fr H : Hp} {D : Addr} {o : HO} (w : W G A cs (upd fr D o) H) (hf : fr D = none) : W G A cs fr H ∧ H D = some o ∧ G D = none ∧ ∀ k c, cs[k]? = some (some c) → D ∉ A k :=
  ⟨w.less (Ex.new hf), w.fh D o upd_same, w.gf D o upd_same, fun k c q hm => by
    have z := (w.own k c q D hm).2
    rw [upd_same] at z; cases z⟩
theorem W.lay {G : Hp} {A : Nat → List Addr} {cs : Cells} {fr H : Hp} {D : Addr} {o : HO} (w : W G A cs fr H) (hH : H D = some o) (hg : G D = none) (hf : fr D = none) (hc : ∀ k c, cs[k]? = some (some c) → D ∉ A k) : W (upd G D o) A cs fr H ∧ Ex G (upd G D o) := by
  refine ⟨⟨fun a u q => ?_, w.fh, fun a u q => ?_, fun k c q => (w.cell k c q).mono (Ex.new hg) fun _ _ _ h => h, w.nd, fun k c q a ha => ⟨?_, (w.own k c q a ha).2⟩, w.apart⟩, Ex.new hg⟩
  · by_cases e : a = D
    · subst e; rw [upd_same] at q; cases q; exact hH
    · rw [upd_ne e] at q; exact w.gh a u q
  · rw [upd_ne (ne_of_none q hf)]; exact w.gf a u q
  · rw [upd_ne (fun e => hc k c q (by rw [← e]; exact ha))]; exact (w.own k c q a ha).1

section
variable {X : Cx} {elt tg iter : Expr} {ifs : List Expr} {scope : Scope} {own : List (Str × Nat)} {pos : Pos} {ds : Slots} {cs : Cells} {xs : List PyData} {g : TG} {js : List Nat} {f : Slots → PyData → Option Slots} {R : Cells → SV → Prop}
/-- what a comprehension's block asks, in one (T: where a turn's test ends) -/
structure LcOk (X : Cx) (elt tg : Expr) (ifs : List Expr) (scope : Scope) (vs : List Nat) (ds : Slots) (xs : List PyData) (f : Slots → PyData → Option Slots) (I : Nat → List PyData → Cells → Prop) (T : Nat → List PyData → Cells → Bool → Prop) : Prop where
  fit : ∀ i x acc cs1, xs[i]? = some x → I i acc cs1 → ∃ ds', f (wipeD ds vs) x = some ds'
  test : ∀ i x acc cs1 ds', xs[i]? = some x → I i acc cs1 → f (wipeD ds vs) x = some ds' → Blk X scope fun X' => PVTs X' ds' cs1 ifs (T i acc)
  no : ∀ i acc cs2, T i acc cs2 false → I (i + 1) acc cs2
  yes : ∀ i x acc cs2 ds', xs[i]? = some x → T i acc cs2 true → f (wipeD ds vs) x = some ds' → Blk X scope fun X' => PD X' ds' cs2 elt fun cs3 sv => ∃ d, sv = .d d ∧ I (i + 1) (acc ++ [d]) cs3
structure TIx where
  i : Nat
  acc : List PyData
  c : Cells
  ds : Slots
abbrev lcT (K : PySem.W.Frag) (ds : Slots) (vs : List Nat) (xs : List PyData) (f : Slots → PyData → Option Slots) (I : Nat → List PyData → Cells → Prop) (T : Nat → List PyData → Cells → Bool → Prop) : TT :=
  fun σ H Q => ∃ p : TIx, (∃ x, xs[p.i]? = some x ∧ I p.i p.acc p.c ∧ f (wipeD ds vs) x = some p.ds) ∧ tDB K p.ds p.c (T p.i p.acc) σ H Q
abbrev lcE (K : PySem.W.Frag) (ds : Slots) (vs : List Nat) (xs : List PyData) (f : Slots → PyData → Option Slots) (I : Nat → List PyData → Cells → Prop) (T : Nat → List PyData → Cells → Bool → Prop) : TE :=
  fun σ H Q => ∃ p : TIx, (∃ x, xs[p.i]? = some x ∧ T p.i p.acc p.c true ∧ f (wipeD ds vs) x = some p.ds) ∧ tD K p.ds p.c (fun cs3 sv => ∃ d, sv = .d d ∧ I (p.i + 1) (p.acc ++ [d]) cs3) σ H Q
theorem LcOk.pts {I : Nat → List PyData → Cells → Prop} {T : Nat → List PyData → Cells → Bool → Prop} {vs : List Nat} (hl : LcOk X elt tg ifs scope vs ds xs f I T) : Blk X scope fun X' => PTs X' ifs (lcT X.K ds vs xs f I T) :=
  fun s H C cl fp => pts_any (ι := TIx) (t := fun p => tDB X.K p.ds p.c (T p.i p.acc)) (P := fun p => ∃ x, xs[p.i]? = some x ∧ I p.i p.acc p.c ∧ f (wipeD ds vs) x = some p.ds) fun p ⟨x, h1, h2, h3⟩ => hl.test p.i x p.acc p.c p.ds h1 h2 h3 s H C cl fp
theorem LcOk.pe {I : Nat → List PyData → Cells → Prop} {T : Nat → List PyData → Cells → Bool → Prop} {vs : List Nat} (hl : LcOk X elt tg ifs scope vs ds xs f I T) : Blk X scope fun X' => PE X' elt (lcE X.K ds vs xs f I T) :=
  fun s H C cl fp => pe_any (ι := TIx) (t := fun p => tD X.K p.ds p.c (fun cs3 sv => ∃ d, sv = .d d ∧ I (p.i + 1) (p.acc ++ [d]) cs3)) (P := fun p => ∃ x, xs[p.i]? = some x ∧ T p.i p.acc p.c true ∧ f (wipeD ds vs) x = some p.ds) fun p ⟨x, h1, h2, h3⟩ => hl.yes p.i x p.acc p.c p.ds h1 h2 h3 s H C cl fp
theorem lc_red {I : Nat → List PyData → Cells → Prop} {T : Nat → List PyData → Cells → Bool → Prop} {vs0 : List Nat} (gd : GD X.K g js f) (hj : ∀ j ∈ js, j ∈ vs0)
    (hl : LcOk X elt tg ifs scope vs0 ds xs f I T) (h0 : I 0 [] cs) (hd : ∀ acc cs', I xs.length acc cs' → R cs' (.d (.list acc))) (hz : xs.length ≤ 1000000) {σ : L2.St} {H : Hp} {Q : VK} (h : tD X.K ds cs R σ H Q) : tLc (tDI X.K ds cs xs) g (lcT X.K ds vs0 xs f I T) (lcE X.K ds vs0 xs f I T) vs0 σ H Q := by
  have szl : (1000000 : Nat) < sizeLine := by decide
  obtain ⟨G, A, fr, w, sl, go⟩ := h
  refine ⟨G, A, fr, w, sl, fun J H1 G1 A1 e1 a1 w1 it D hD => ?_⟩
  have fD : fr D = none := w1.fh.fresh hD
  have gD : G1 D = none := w1.gh.fresh hD
  -- the word between two turns
  let Pv : Nat → Hp → Prop := fun i H' => ∃ G' A' cs' acc vs, I i acc cs' ∧ Ex G1 G' ∧ AEx cs.length A1 A' ∧ cs.length ≤ cs'.length ∧ W G' A' cs' fr H' ∧ H' D = some (.lst vs) ∧ DtAll G' vs acc ∧ acc.length ≤ i ∧ G' D = none ∧ (∀ k c, cs'[k]? = some (some c) → D ∉ A' k)
  refine ⟨fun i m H' => m = xs.length - i ∧ i ≤ xs.length ∧ Pv i H', ⟨xs.length, by simp, Nat.zero_le _, ?_⟩, ?_⟩
  · exact ⟨G1, A1, cs, [], [], h0, Ex.refl _, AEx.refl _ _, Nat.le_refl _, w1.side gD fD (fun k c q => w1.fresh_own hD q), upd_same, .nil, Nat.le_refl _, gD, fun k c q => w1.fresh_own hD q⟩
  rintro i m H2 ⟨rfl, hi2, G2, A2, cs2, acc, vs, hI, e2, a2, l2, w2, hH, hall, hlen, g2, n2⟩
  have eG : Ex G1 H2 := e2.trans w2.gh
  by_cases hlt : i < xs.length
  · refine .inr ⟨it.go i H2 eG hlt, Pv (i + 1), fun H' p => ⟨xs.length - (i + 1), by omega, rfl, hlt, p⟩, fun x H3 hy => ?_⟩
    obtain ⟨y, hy2⟩ : ∃ y, xs[i]? = some y := ⟨xs[i], by simp [hlt]⟩
    obtain ⟨ds', hf⟩ := hl.fit i y acc cs2 hy2 hI
    -- the item, and the heap in which it stands
    obtain ⟨G3, e3, w3, okx, hH3, g3, n3⟩ : ∃ G3, Ex G2 G3 ∧ W G3 A2 cs2 fr H3 ∧ Dt G3 x y ∧ H3 D = some (.lst vs) ∧ G3 D = none ∧ True := by
      rcases it.yld i H2 x H3 eG hy y hy2 with ⟨h1, h2⟩ | ⟨T0, us, es, h1, h2, h3, h4, h5⟩
      · exact ⟨G2, Ex.refl _, by rw [h1]; exact w2, h2.mono e2, by rw [h1]; exact hH, g2, trivial⟩
      · obtain ⟨w', ex⟩ := w2.new (o := .tup us) h2
        have ne : D ≠ T0 := ne_of_none hH h2
        refine ⟨upd G2 T0 (.tup us), ex, by rw [h3]; exact w', ?_, by rw [h3, upd_ne ne]; exact hH, by rw [upd_ne ne]; exact g2, trivial⟩
        rw [h1, h5]
        exact .tup upd_same ((h4.mono e2).mono ex)
    have slw : Sl X.K G3 A2 cs2.length (wipe σ vs0) (wipeD ds vs0) := (sl.mono (e1.trans (e2.trans e3)) (a1.trans a2 (Nat.le_refl _)) l2).wipe _
    refine gd x y _ H3 _ _ ds' G3 A2 cs2.length slw w3.gh okx hf fun σ2 sl2 so => ⟨?_, ?_⟩
    · rw [wipe_off so hj, wipe_wipe]
    have wg := w3.guard hH3 g3 fD n2
    refine ⟨⟨i, acc, cs2, ds'⟩, ⟨y, hy2, hI, hf⟩, G3, A2, upd fr D (.lst vs), wg, sl2, fun b cs4 G4 A4 H4 hT e4 a4 l4 w4 => ?_⟩
    obtain ⟨w4', hH4, g4, n4⟩ := w4.unguard fD
    cases b with
    | false =>
      refine iteF ⟨G4, A4, cs4, acc, vs, hl.no i acc cs4 hT, e2.trans (e3.trans e4), a2.trans (fun k hk => a4 k (Nat.lt_of_lt_of_le hk l2)) (Nat.le_refl _), Nat.le_trans l2 l4, w4', hH4, (hall.mono (e3.trans e4)), Nat.le_succ_of_le hlen, g4, n4⟩
    | true =>
      refine iteT ⟨⟨i, acc, cs4, ds'⟩, ⟨y, hy2, hT, hf⟩, G4, A4, upd fr D (.lst vs), w4, sl2.mono e4 a4 l4, fun v sv cs5 G5 A5 H5 ⟨d, hsv, hI5⟩ e5 a5 l5 w5 ok5 => ?_⟩
      subst hsv
      obtain ⟨w5', hH5, g5, n5⟩ := w5.unguard fD
      have hl5 : vs.length = acc.length := hall.length
      refine ⟨vs, hH5, by omega, G5, A5, cs5, acc ++ [d], vs ++ [v], hI5, e2.trans (e3.trans (e4.trans e5)), ?_, Nat.le_trans l2 (Nat.le_trans l4 l5), w5'.side g5 fD n5, upd_same, (hall.mono (e3.trans (e4.trans e5))).append (.cons ok5 .nil), by rw [List.length_append]; simp; exact hlen, g5, n5⟩
      exact (a2.trans a4 l2).trans a5 (Nat.le_trans l2 l4)
  · have ei : i = xs.length := by omega
    subst ei
    refine .inl ⟨it.stop _ H2 eG (Nat.le_refl _), ?_⟩
    obtain ⟨w3, e3⟩ := w2.lay hH g2 fD n2
    exact go _ _ cs2 _ A2 H2 (hd acc cs2 hI) (e1.trans (e2.trans e3)) (a1.trans a2 (Nat.le_refl _)) l2 w3 (.lst upd_same (hall.mono e3))
theorem pd_lc {I : Nat → List PyData → Cells → Prop} {T : Nat → List PyData → Cells → Bool → Prop} (hi : PVI X ds cs tg iter xs) (ok : BlkOk X.N X.env.scope scope own) (hg : Blk X scope fun X' => PG X' tg g) (gd : GD X.K g js f) (hj : ∀ j ∈ js, j ∈ own.map (·.2))
    (hl : LcOk X elt tg ifs scope (own.map (·.2)) ds xs f I T) (h0 : I 0 [] cs) (hd : ∀ acc cs', I xs.length acc cs' → R cs' (.d (.list acc))) (hz : xs.length ≤ 1000000) (hN : X.N.Nodup) (hc : X.calm = true := by rfl)
    (hs : ∀ x, foldedSetIterable iter X.env x = pure x := by intro _; rfl) : PD X ds cs (.ListComp elt [⟨tg, iter, ifs, 0⟩] scope pos) R :=
  pe_imp (pe_lc hc hN hi ok hg hl.pts hl.pe hs) fun σ H Q h => lc_red gd hj hl h0 hd hz h
end
/-- the plain forms: nothing but data -/
theorem take_succ_map {α β : Type} {xs : List α} {i : Nat} {x : α} (h : α → β) (q : xs[i]? = some x) : (xs.take (i + 1)).map h = (xs.take i).map h ++ [h x] := by
  rw [List.take_add_one, q]; simp
theorem take_succ_filter {α β : Type} {xs : List α} {i : Nat} {x : α} (p : α → Bool) (h : α → β) (q : xs[i]? = some x) : ((xs.take (i + 1)).filter p).map h = ((xs.take i).filter p).map h ++ (if p x then [h x] else []) := by
  rw [List.take_add_one, q]
  cases e : p x <;> simp [e]
section
variable {X : Cx} {elt tg iter : Expr} {ifs : List Expr} {scope : Scope} {own : List (Str × Nat)} {pos : Pos} {ds : Slots} {cs : Cells} {xs : List PyData} {g : TG} {js : List Nat} {f : Slots → PyData → Option Slots}
def lcI (cs : Cells) (xs : List PyData) (p : PyData → Bool) (h : PyData → PyData) : Nat → List PyData → Cells → Prop := fun i acc cs' => cs' = cs ∧ acc = ((xs.take i).filter p).map h
def lcTt (cs : Cells) (xs : List PyData) (p : PyData → Bool) (h : PyData → PyData) : Nat → List PyData → Cells → Bool → Prop := fun i acc cs' b => cs' = cs ∧ acc = ((xs.take i).filter p).map h ∧ ∃ x, xs[i]? = some x ∧ b = p x
/-- what each item asks -/
def LcEach (X : Cx) (elt : Expr) (ifs : List Expr) (scope : Scope) (vs : List Nat) (ds : Slots) (cs : Cells) (xs : List PyData) (f : Slots → PyData → Option Slots) (p : PyData → Bool) (h : PyData → PyData) : Prop :=
  ∀ x ∈ xs, ∃ ds', f (wipeD ds vs) x = some ds' ∧ (Blk X scope fun X' => PVTs X' ds' cs ifs (Is cs (p x))) ∧ (p x = true → Blk X scope fun X' => PV X' ds' cs elt (.d (h x)))
theorem LcEach.ok {vs : List Nat} {p : PyData → Bool} {h : PyData → PyData} (e : LcEach X elt ifs scope vs ds cs xs f p h) : LcOk X elt tg ifs scope vs ds xs f (lcI cs xs p h) (lcTt cs xs p h) where
  fit := fun i x acc cs1 q _ => by
    obtain ⟨ds', h1, _⟩ := e x (List.mem_of_getElem? q)
    exact ⟨ds', h1⟩
  test := fun i x acc cs1 ds' q hI hf s H C cl fp => by
    obtain ⟨ds2, h1, h2, _⟩ := e x (List.mem_of_getElem? q)
    rw [h1] at hf
    cases hf
    obtain ⟨rfl, e2⟩ := hI
    exact pts_imp (h2 s H C cl fp) fun σ H Q ⟨G, A, fr, w, sl, g⟩ => ⟨G, A, fr, w, sl, fun b cs' G2 A2 H2 ⟨r1, r2⟩ e a l w => g b cs' G2 A2 H2 ⟨r1, e2, x, q, r2⟩ e a l w⟩
  no := fun i acc cs2 ⟨h1, h2, x, q, hb⟩ => ⟨h1, by rw [take_succ_filter p h q, ← hb, h2]; simp⟩
  yes := fun i x acc cs2 ds' q ⟨h1, h2, y, q2, hb⟩ hf s H C cl fp => by
    obtain ⟨ds2, k1, _, k2⟩ := e x (List.mem_of_getElem? q)
    rw [k1] at hf
    cases hf
    rw [q] at q2
    cases q2
    subst h1
    exact PV.pd (k2 hb.symm s H C cl fp) ⟨h x, rfl, rfl, by rw [take_succ_filter p h q, ← hb, h2]; simp⟩
theorem pv_lcF {p : PyData → Bool} {h : PyData → PyData} (hi : PVI X ds cs tg iter xs) (ok : BlkOk X.N X.env.scope scope own) (hg : Blk X scope fun X' => PG X' tg g) (gd : GD X.K g js f) (hj : ∀ j ∈ js, j ∈ own.map (·.2)) (e : LcEach X elt ifs scope (own.map (·.2)) ds cs xs f p h)
    (hz : xs.length ≤ 1000000) (hN : X.N.Nodup) (hc : X.calm = true := by rfl) (hs : ∀ x, foldedSetIterable iter X.env x = pure x := by intro _; rfl) : PV X ds cs (.ListComp elt [⟨tg, iter, ifs, 0⟩] scope pos) (.d (.list ((xs.filter p).map h))) :=
  pd_lc hi ok hg gd hj e.ok ⟨rfl, by simp⟩ (fun acc cs' ⟨h1, h2⟩ => ⟨h1, by rw [h2, List.take_length]⟩) hz hN hc hs
theorem pv_lc {h : PyData → PyData} (hi : PVI X ds cs tg iter xs) (ok : BlkOk X.N X.env.scope scope own) (hg : Blk X scope fun X' => PG X' tg g) (gd : GD X.K g js f) (hj : ∀ j ∈ js, j ∈ own.map (·.2)) (e : ∀ x ∈ xs, ∃ ds', f (wipeD ds (own.map (·.2))) x = some ds' ∧ Blk X scope fun X' => PV X' ds' cs elt (.d (h x)))
    (hz : xs.length ≤ 1000000) (hN : X.N.Nodup) (hc : X.calm = true := by rfl) (hs : ∀ x, foldedSetIterable iter X.env x = pure x := by intro _; rfl) : PV X ds cs (.ListComp elt [⟨tg, iter, [], 0⟩] scope pos) (.d (.list (xs.map h))) := by
  have q := pv_lcF (elt := elt) (pos := pos) (ifs := []) (p := fun _ => true) (h := h) hi ok hg gd hj (fun x hx => by
    obtain ⟨ds', h1, h2⟩ := e x hx
    exact ⟨ds', h1, fun s H C cl fp => pvts_nil ⟨rfl, rfl⟩, fun _ => h2⟩) hz hN hc hs
  rw [List.filter_eq_self.mpr (fun _ _ => rfl)] at q
  exact q
end
end DL
set_option Elab.async false
set_option linter.all false
set_option maxRecDepth 100000
set_option maxHeartbeats 2000000
/-! DLR: further rules of built-ins: sum and sorted of tuples of ints, len(set(..)). -/
namespace DLR
open PySem PySem.Spec PyProof.Rows L2
open Sem (wp)

section
variable {prog : Program} {w : World} {A : Around} {E : Value → Shared → Prop} {s : Shared} {l : Addr}
theorem sum_tup {ns : List Int} {its : List Value} {Q : Value → Shared → Prop} (hh : A.handled = none) (hl : s.heap.IsTuple l its.toArray) (hi : IntsAre its ns)
    (h : ∀ h' tk t', (∀ b o, s.heap.get? b = some o → h'.get? b = some o) → Q (.int ns.sum t') { s with heap := h', toks := tk }) : wpAny (model prog w) A (call (.builtin "sum") [.ref l]) Q E s := by
  obtain ⟨xs, e⟩ := hi.allInts.items
  have hn : numsOf (intItems xs).toList = ns := by rw [← e]; exact hi.numsOf
  rw [nums_intItems] at hn
  rw [e] at hl
  refine call_sum_walkG (wpAny_pyIter_tuple hl ?_)
  have hlt : l < s.heap.objs.size := by obtain ⟨o, ho, _⟩ := hl; exact Heap.lt_size ho
  refine ⟨_, _, _, _, _, _, numAt xs, rfl, Walks.tuple (A := A.in1) hh s.heap.objs.size l (Nat.ne_of_lt hlt) (intItems xs), ⟨⟨_, Heap.get?_push_size _ rfl, rfl, rfl⟩, hl.at fun o e => Heap.get?_push_of_some _ e⟩, fun b hb => ?_, (fun _ _ => intItems_at), fun h' tk t' hk => ?_⟩
  · simp at hb
    rw [Heap.size_push]
    rcases hb with rfl | rfl
    · exact Nat.lt_succ_self _
    · exact Nat.lt_succ_of_lt hlt
  · have := h h' tk t' (fun b o e => hk b o (by simp; exact Nat.ne_of_lt (Heap.lt_size e)) (Heap.get?_push_of_some _ e))
    have e2 : preSum (numAt xs) (intItems xs).size = ns.sum := by
      rw [preSum_eq, List.take_of_length_le (by simp [intItems]), hn]
    rw [e2]
    exact this
theorem collect_tup {vs : List Value} {Q : List Value → Shared → Prop} (hl : s.heap.IsTuple l vs.toArray)
    (h : Q vs { s with heap := (s.heap.push (seqObj "list" #[] 0)).update s.heap.objs.size (Obj.mapSeq (· ++ vs.toArray)) }) (hsz : vs.length ≤ sizeLine := by size_fits) :
    wpAny (model prog w) A (collect (.ref l)) Q E s := by
  obtain ⟨o, ho, hc, n, hd⟩ := id hl
  unfold collect
  refine wpAny_bind (wpAny_runValue (codeAny_builtin entry_proto_collect' ?_))
  show wpAny _ _ (do again (.builtin "list.__iadd__" ⟨[← newList [], .ref l], []⟩)) _ _ s
  refine wpAny_bind (wpAny_newList (wpAny_pure ⟨Code.quiet_builtin _ (by decide +kernel), codeAny_builtin entry_list_iadd' ?_⟩))
  show wpAny _ _ (Builtin.List.listExtendWith (.ref s.heap.objs.size) (.ref l) (.ref s.heap.objs.size)) _ _ { s with heap := s.heap.push (seqObj "list" #[] 0) }
  unfold Builtin.List.listExtendWith
  have ho' : (s.heap.push (seqObj "list" #[] 0)).get? l = some o := Heap.get?_push_of_some _ ho
  refine wpAny_bind (wpAny_typeOf (T := "tuple") ⟨o, ho', hc⟩ ?_)
  have ht : (Value.type "tuple" == Value.type "tuple") = true := by rfl
  rw [if_pos (by rw [ht]; simp)]
  refine wpAny_bind (listItems_at ho' hd ?_)
  refine wpAny_bind (listItems_at (xs := #[]) (n := 0) (Heap.get?_push_size _ rfl) rfl ?_)
  rw [if_neg (by simp)]
  refine wpAny_bind (listUpdate_at (xs := #[]) (n := 0) (Heap.get?_push_size _ rfl) rfl ?_ (Nat.zero_le _) (by show (#[] ++ vs.toArray).size ≤ sizeLine + 1; simp only [Array.size_append, List.size_toArray, List.length_nil]; omega))
  refine wpAny_pure ?_
  show wpAny (model prog w) A (do
      let o ← load s.heap.objs.size
      match o.data with
      | .seq xs _ => pure xs.toList
      | _ => unsupported "internal:collect") Q E { s with heap := (s.heap.push (seqObj "list" #[] 0)).update s.heap.objs.size (Obj.mapSeq (· ++ vs.toArray)) }
  refine wpAny_bind (wpAny_load (get?_update_seq (Heap.get?_push_size _ rfl) _) ?_)
  show wpAny _ _ (pure ((#[] : Array Value) ++ vs.toArray).toList) Q E _
  rw [show ((#[] : Array Value) ++ vs.toArray).toList = vs by simp]
  exact wpAny_pure h
theorem sorted_intsT {vs : List Value} {ns : List Int} {Q : Value → Shared → Prop} (hl : s.heap.IsTuple l vs.toArray) (hI : IntsAre vs ns) (h64 : vs.length < 64)
    (h : ∀ (out : Array Value) (ns' : List Int), IntsAre out.toList ns' → ns'.Perm ns → ns'.Pairwise (· ≤ ·) → Q (.ref (s.heap.objs.size + 1)) { s with heap := sortedAll s.heap vs out }) :
    wpAny (model prog w) A (call (.builtin "sorted") [.ref l]) Q E s := by
  refine Calls.call_function_entry kind_sorted plain_sorted entry_sorted (args_sorted1 _) ?_
  unfold Builtin.«sorted»
  refine wpAny_bind (m := checkCount "sorted" 1 1 _) (wpAny_pure ?_)
  refine wpAny_bind (collect_tup hl ?_ (by rw [sizeLine_eq]; omega))
  refine wpAny_bind (wpAny_newList ?_ (by rw [sizeLine_eq]; omega))
  have hsz : ((s.heap.push (seqObj "list" #[] 0)).update s.heap.objs.size (Obj.mapSeq (· ++ vs.toArray))).objs.size = s.heap.objs.size + 1 := by
    rw [Heap.size_update, size_push']
  have hoL : (((s.heap.push (seqObj "list" #[] 0)).update s.heap.objs.size (Obj.mapSeq (· ++ vs.toArray))).push (seqObj "list" vs.toArray 0)).get? (s.heap.objs.size + 1) = some (seqObj "list" vs.toArray 0) := by
    rw [← hsz]; exact Heap.get?_push_size _ rfl
  show wpAny _ _ _ _ _ { s with heap := ((s.heap.push (seqObj "list" #[] 0)).update s.heap.objs.size (Obj.mapSeq (· ++ vs.toArray))).push (seqObj "list" vs.toArray 0) }
  rw [hsz]
  refine wpAny_bind (wpAny_holding (wpAny_call_entry slot_list_sort ⟨_, hoL, rfl⟩ entry_list_sort (list_sort_tree hoL hI h64 fun out ns' a1 a2 a3 => ⟨_, rfl, ?_⟩) (args_list_sort _)))
  exact wpAny_pure ⟨_, rfl, h out ns' a1 a2 a3⟩
end

section
variable {X : Cx}
def rSumT (K : PySem.W.Frag) : List V → Hp → VK → Prop := fun vs H Q => ∃ (a : Addr) (ns : List Int), vs = [V.ref a] ∧ SqT K H a (ns.map V.int) ∧ Q (.int ns.sum) H
theorem cr_sumT (hc : X.calm = true) : CallR X (.builtin "sum") (rSumT X.K) := by
  intro pins s σ H vs us Q I r h
  obtain ⟨a, ns, rfl, hs, q⟩ := h
  obtain ⟨its, rv, hl, _⟩ := I.tuple hs
  rw [Vals.ref1 r]
  exact sum_tup (I.ok.hd hc) (show s.heap.IsTuple a its.toArray from hl) rv.ints fun h' tk t' hk => ⟨.int _, H, I.kept hk, ⟨_, rfl⟩, q⟩
theorem cr_sum2 (hc : X.calm = true) : CallR X (.builtin "sum") (fun vs H Q => rSum X.K vs H Q ∨ rSumT X.K vs H Q) := by
  intro pins s σ H vs us Q I r h
  rcases h with h | h
  · exact cr_sum hc pins s σ H vs us Q I r h
  · exact cr_sumT hc pins s σ H vs us Q I r h
def rSortedT (K : PySem.W.Frag) : List V → Hp → VK → Prop := fun vs H Q => ∃ (a : Addr) (ns : List Int), vs = [V.ref a] ∧ SqT K H a (ns.map V.int) ∧ ns.length < 64 ∧
  ∀ (ns' : List Int) (p : Addr), ns'.Perm ns → ns'.Pairwise (· ≤ ·) → H p = none → Q (.ref p) (upd H p (.lst (ns'.map V.int)))
theorem cr_sortedT : CallR X (.builtin "sorted") (rSortedT X.K) := by
  intro pins s σ H vs us Q I r h
  obtain ⟨a, ns, rfl, hs, h64, q⟩ := h
  obtain ⟨its, rv, hl, _⟩ := I.tuple hs
  rw [Vals.ref1 r]
  have hi := rv.ints
  refine sorted_intsT (show s.heap.IsTuple a its.toArray from hl) hi (by rw [hi.length]; exact h64) fun out ns' h1 h2 h3 => ?_
  obtain ⟨ep, he'⟩ := PyProof.Rows.sortedAll_at s.heap its out
  have hlen : (ns'.map V.int).length ≤ sizeLine := by rw [List.length_map, h2.length_eq]; exact small64 h64
  exact ⟨.ref _, upd H (s.heap.objs.size + 1) (.lst (ns'.map V.int)), I.laid (t' := s.toks) (fun _ _ => PyProof.Rows.sortedAll_old) (Nat.le_succ _) ⟨hlen, out.toList, ep, vals_of_ints h1, he'⟩, rfl, q ns' _ h2 h3 (I.hok.fresh (Nat.le_succ _))⟩

/-- the number of different ints of a list -/
def dcount (ns : List Int) : Nat := ns.eraseDups.length
theorem firstMet_fold (ns : List Int) : PyProof.Rows.firstMet (fun i => ns.getD i 0) ns.length = ns.foldl step_dedup [] := by
  unfold PyProof.Rows.firstMet
  congr 1
  apply List.ext_getElem
  · simp
  · intro i h1 h2
    simp [List.getD_eq_getElem?_getD, List.getElem?_eq_getElem h2]
theorem fold_nodup : ∀ (ns acc : List Int), acc.Nodup → (ns.foldl step_dedup acc).Nodup ∧ ∀ k, k ∈ ns.foldl step_dedup acc ↔ k ∈ acc ∨ k ∈ ns
  | [], acc, h => ⟨h, fun k => by simp⟩
  | n :: ns, acc, h => by
    have hs : (step_dedup acc n).Nodup ∧ ∀ k, k ∈ step_dedup acc n ↔ k ∈ acc ∨ k = n := by
      unfold step_dedup
      by_cases q : acc.any (· == n) = true
      · rw [if_pos q]
        refine ⟨h, fun k => ⟨.inl, fun z => ?_⟩⟩
        rcases z with z | rfl
        · exact z
        · obtain ⟨y, hy, e⟩ := List.any_eq_true.mp q
          rw [← eq_of_beq e]; exact hy
      · rw [if_neg q]
        have hn : n ∉ acc := fun hm => q (List.any_eq_true.mpr ⟨n, hm, beq_self_eq_true n⟩)
        refine ⟨?_, fun k => by simp⟩
        rw [List.nodup_append]
        refine ⟨h, by simp, fun a ha b hb => ?_⟩
        simp at hb
        subst hb
        exact fun e => hn (e ▸ ha)
    obtain ⟨h1, h2⟩ := fold_nodup ns _ hs.1
    refine ⟨h1, fun k => ?_⟩
    rw [List.foldl_cons, h2, hs.2, List.mem_cons]
    exact or_assoc
/-- nodup lists of the same members are as long -/
theorem same_len {l m : List Int} (h1 : l.Nodup) (h2 : m.Nodup) (h : ∀ k, k ∈ l ↔ k ∈ m) : l.length = m.length := ((List.perm_ext_iff_of_nodup h1 h2).mpr h).length_eq
/-- len(set(x)), x a list or a tuple of ints: out holds each member once -/
def tLenSetX (K : PySem.W.Frag) (ta : TE) : TE := fun σ H Q => ta σ H fun x H1 => ∃ (l : Addr) (ns : List Int), x = .ref l ∧ (SqL K H1 l (ns.map V.int) ∨ SqT K H1 l (ns.map V.int)) ∧ ns.length ≤ 1000 ∧ ∀ out : List Int, out.Nodup → (∀ k, k ∈ out ↔ k ∈ ns) → Q (.int (out.length : Nat)) H1
theorem pe_lenSetX {a : Expr} {ta : TE} {p p2 q pos : Pos} (hg : Gl X "len") (hm : X.mg "len" = none) (hg2 : Gl X "set") (hm2 : X.mg "set" = none) (ha : PE X a ta) (hc : X.calm = true := by rfl)
    (na : starEach [a] X.env = (false, eval a X.env) :: starEach [] X.env := by rfl) : PE X (.Call (.Name "len" p) [.Call (.Name "set" p2) [a] [] q] [] pos) (tLenSetX X.K ta) := by
  refine ⟨fun pins s σ H Q I h => ?_⟩
  refine Call_ (ld_blt I hg hm boot_len ?_)
  refine PyProof.Rows.callWith_builtin1 (PyProof.Rows.args_cons ?_ rfl) rfl rfl
  refine Call_ (ld_blt I hg2 hm2 PyProof.Rows.boot_set ?_)
  refine PyProof.Rows.callWith_type1 (PyProof.Rows.args_cons (thn (ha.run pins s σ H _ I h) fun v s1 ⟨x, H1, I1, r1, q1⟩ => PyProof.Rows.args_nil ?_) na) na rfl
  obtain ⟨l, ns, rfl, hq, hl, q1⟩ := q1
  cases r1
  rcases hq with hq | hq
  · obtain ⟨its, r, pl, hz⟩ := I1.list hq
    have hlen : its.toArray.size = ns.length := by rw [List.size_toArray, ← r.length, List.length_map]
    refine call_set_list (I1.ok.hd hc) pl.isList (by simpa using r.ints) (by rw [hlen]; unfold scanBound; omega) fun h' tk hS hk => ?_
    refine PyProof.Rows.args_nil ?_
    rw [hlen, firstMet_fold] at hS
    obtain ⟨o, es, ep, t, ho, hex, hd, _, _, _, hf, hn⟩ := hS
    obtain ⟨n1, n2⟩ := fold_nodup ns [] .nil
    have I2 : Inv X pins σ H1 { s1 with heap := h', toks := tk } := I1.kept fun b o e => hk b o (Heap.lt_size e) e
    have hle : (ns.foldl step_dedup []).length ≤ 1000 := by
      rw [← firstMet_fold]
      exact Nat.le_trans (PyProof.Rows.firstMet_length_le _ _) hl
    exact call_len_set ho hex hd hf (by rw [hn] <;> omega) ⟨.int (ns.foldl step_dedup []).length, H1, I2.tok _, ⟨_, by rw [hn]⟩, q1 _ n1 fun k => by rw [n2]; simp⟩
  · obtain ⟨its, rv, pt, hz⟩ := I1.tuple hq
    have hi : IntsAre its.toArray.toList ns := ints_of_vals rv
    refine call_set_tupI ns (I1.ok.hd hc) (show s1.heap.IsTuple l its.toArray from pt) hi (by unfold scanBound; omega) fun h' tk c R1 hcn k => ?_
    refine PyProof.Rows.args_nil ?_
    obtain ⟨o, es, ep, t, ho, hex, hdt, g, nd, hm2, hb, hf, hn, hr, hl2⟩ := R1
    have I2 : Inv X pins σ H1 { s1 with heap := h', toks := tk } := I1.kept k
    have e1 : (es.toList.map keyOf).length = es.size := by rw [List.length_map, Array.length_toList]
    have q2 := q1 (es.toList.map keyOf) nd fun j => by rw [← hm2 j, decide_eq_true_eq]
    rw [e1] at q2
    exact call_len_set ho hex hdt hf (by omega) ⟨.int es.size, H1, I2.tok _, ⟨_, rfl⟩, q2⟩
end
end DLR
set_option Elab.async false
set_option linter.all false
set_option maxRecDepth 100000
set_option maxHeartbeats 2000000
/-! DL5: built-in functions, methods and sequence operators over data. -/
namespace DL
open PySem PySem.Spec PyProof.Rows L2

/-! ### isinstance -/
def tyD : PyData → String
  | .none => "NoneType"
  | .bool _ => "bool"
  | .int _ => "int"
  | .str _ => "str"
  | .list _ => "list"
  | .tuple _ => "tuple"
  | .dict _ => "dict"
theorem tyX_dt {K : PySem.W.Frag} {G H : Hp} {v : V} {d : PyData} (h : Dt G v d) (e : Ex G H) : TyX K H v (.type (tyD d)) := by
  cases h with
  | non => exact .base .non
  | bl b => exact .base (.bl b)
  | int i => exact .base (.int i)
  | str x => exact .base (.str x)
  | lst h k => exact .base (.lst (e _ _ h))
  | tup h k => exact .base (.tup (e _ _ h))
def isT (a T : String) : Bool := a == T || (T == "int" && a == "bool")
def isD (T : String) (d : PyData) : Bool := isT (tyD d) T
theorem kit_isD {T : String} (hT : T = "int" ∨ T = "bool" ∨ T = "str" ∨ T = "dict" ∨ T = "list" ∨ T = "tuple") {G : Hp} {v : V} {d : PyData} (h : Dt G v d) : kitB (tyD d) T = some (isD T d) := by
  rcases hT with rfl | rfl | rfl | rfl | rfl | rfl <;> (cases h <;> (simp only [tyD, isD]; decide +kernel))
section
variable {X : Cx} {e a b c : Expr} {es : List Expr} {pos p p2 : Pos} {ds : Slots} {cs : Cells} {R : Cells → SV → Prop} {x y : Str} {sv : SV} {d : PyData} {i j : Int}
theorem pv_isi (T : String) (hT : T = "int" ∨ T = "bool" ∨ T = "str" ∨ T = "dict" ∨ T = "list" ∨ T = "tuple") (hmi : X.mg "isinstance" = none) (hmy : X.mg y = none) (hvy : bootBuiltins y = some (.type T)) (ha : PV X ds cs a (.d d)) (hgi : Gl X "isinstance" := by rfl) (hgy : Gl X y := by rfl) (hn : y ≠ "__name__" := by decide) (hd : (y == ("__debug__" : Str)) = false := by decide)
    (he : starEach [a, .Name y p2] X.env = (false, eval a X.env) :: starEach [.Name y p2] X.env := by rfl) (he2 : starEach [.Name y p2] X.env = (false, eval (.Name y p2) X.env) :: starEach [] X.env := by rfl) (hpl : (backTo pos (starEach [.Name y p2] X.env)).any (·.1) = false := by rfl) :
    PV X ds cs (.Call (.Name "isinstance" p) [a, .Name y p2] [] pos) (.d (.bool (isD T d))) := by
  refine pe_imp (pe_callB call_isi hgi hmi (by decide +kernel) (pa_cons ha (pa_cons (pe_bltn (v := .ty T) hgy hmy hvy rfl hn hd) pa_nil he2) he) (by decide) (by decide) he hpl) fun σ H Q ⟨G, A, fr, w, sl, g⟩ => ?_
  refine ⟨G, A, fr, w, sl, fun v z cs1 G1 A1 H1 ⟨r1, r2⟩ e1 a1 l1 w1 ok1 => ?_⟩
  subst r1 r2
  exact ⟨v, .ty T, _, _, _, rfl, .ty T, tyX_dt ok1 w1.gh, kit_ty (kit_isD hT ok1), (g.step e1 a1 l1).here ⟨rfl, rfl⟩ w1 (.bl _)⟩
/-- isinstance(x, (S, T)) -/
theorem pv_isi2 (S T : String) {y2 : Str} {p3 p4 : Pos} {kk : Nat} (hS : S = "int" ∨ S = "bool" ∨ S = "str" ∨ S = "dict" ∨ S = "list" ∨ S = "tuple") (hT : T = "int" ∨ T = "bool" ∨ T = "str" ∨ T = "dict" ∨ T = "list" ∨ T = "tuple") (hmi : X.mg "isinstance" = none) (hmy : X.mg y = none) (hvy : bootBuiltins y = some (.type S)) (hmy2 : X.mg y2 = none) (hvy2 : bootBuiltins y2 = some (.type T)) (ha : PV X ds cs a (.d d))
    (hgi : Gl X "isinstance" := by rfl) (hgy : Gl X y := by rfl) (hgy2 : Gl X y2 := by rfl) (hn : y ≠ "__name__" := by decide) (hd : (y == ("__debug__" : Str)) = false := by decide) (hn2 : y2 ≠ "__name__" := by decide) (hd2 : (y2 == ("__debug__" : Str)) = false := by decide)
    (he : starEach [a, .Tuple [.Name y p2, .Name y2 p3] kk p4] X.env = (false, eval a X.env) :: starEach [.Tuple [.Name y p2, .Name y2 p3] kk p4] X.env := by rfl) (he2 : starEach [.Tuple [.Name y p2, .Name y2 p3] kk p4] X.env = (false, eval (.Tuple [.Name y p2, .Name y2 p3] kk p4) X.env) :: starEach [] X.env := by rfl)
    (he3 : starEach [.Name y p2, .Name y2 p3] X.env = (false, eval (.Name y p2) X.env) :: starEach [.Name y2 p3] X.env := by rfl) (he4 : starEach [.Name y2 p3] X.env = (false, eval (.Name y2 p3) X.env) :: starEach [] X.env := by rfl) (hpl : (backTo pos (starEach [.Tuple [.Name y p2, .Name y2 p3] kk p4] X.env)).any (·.1) = false := by rfl) :
    PV X ds cs (.Call (.Name "isinstance" p) [a, .Tuple [.Name y p2, .Name y2 p3] kk p4] [] pos) (.d (.bool (isD S d || isD T d))) := by
  refine pe_imp (pe_callB call_isiT hgi hmi (by decide +kernel) (pa_cons ha (pa_cons (pe_tup (pa_cons (pe_bltn (v := .ty S) hgy hmy hvy rfl hn hd) (pa_cons (pe_bltn (v := .ty T) hgy2 hmy2 hvy2 rfl hn2 hd2) pa_nil he4) he3)) pa_nil he2) he) (by decide) (by decide) he hpl) fun σ H Q ⟨G, A, fr, w, sl, g⟩ => ?_
  refine ⟨G, A, fr, w, sl, fun v z cs1 G1 A1 H1 ⟨r1, r2⟩ e1 a1 l1 w1 ok1 => ?_⟩
  subst r1 r2
  refine ⟨by show 2 ≤ sizeLine; decide, fun q hq => ?_⟩
  obtain ⟨w2, e2⟩ := w1.new (o := .tup [.ty S, .ty T]) hq
  refine ⟨v, q, [.ty S, .ty T], _, [.type S, .type T], isD S _ || isD T _, rfl, upd_same, .cons (.ty S) (.cons (.ty T) .nil), tyX_dt ok1 (w1.gh.trans (Ex.new hq)), ?_, (g.step (e1.trans e2) (a1.trans (AEx.refl _ _) l1) l1).here ⟨rfl, rfl⟩ w2 (.bl _)⟩
  refine kitAny_cons (kit_ty (kit_isD hS ok1)) (fun hb => ?_) (fun hb => by rw [hb]; rfl)
  refine kitAny_cons (kit_ty (kit_isD hT ok1)) (fun hb2 => ?_) (fun hb2 => by rw [hb2]; simp)
  rw [hb, hb2]; exact kitAny_nil

/-! ### len, sum, min, max, abs, int -/
theorem pv_lenL {xs : List PyData} (hm : X.mg "len" = none) (ha : PVA X ds cs [a] [.d (.list xs)]) (hg : Gl X "len" := by rfl) (he : starEach [a] X.env = (false, eval a X.env) :: starEach [] X.env := by rfl) (hpl : (backTo pos (starEach [] X.env)).any (·.1) = false := by rfl) : PV X ds cs (.Call (.Name "len" p) [a] [] pos) (.d (.int xs.length)) :=
  pv_callB call_len_seq boot_len hm ha (fun G A fr H vs Q w ok g => by
    cases ok with
    | cons h1 h2 =>
      cases h2
      obtain ⟨a0, ws, rfl, hg, hall⟩ := dt_lst h1
      exact ⟨a0, ws, rfl, .inl (SqL.of (w.gh _ _ hg)), g.here ⟨rfl, rfl⟩ w (by rw [hall.length]; exact .int _)⟩) hg (by decide) (by decide) he hpl
theorem pv_lenT {xs : List PyData} (hm : X.mg "len" = none) (ha : PVA X ds cs [a] [.d (.tuple xs)]) (hg : Gl X "len" := by rfl) (he : starEach [a] X.env = (false, eval a X.env) :: starEach [] X.env := by rfl) (hpl : (backTo pos (starEach [] X.env)).any (·.1) = false := by rfl) : PV X ds cs (.Call (.Name "len" p) [a] [] pos) (.d (.int xs.length)) :=
  pv_callB call_len_seq boot_len hm ha (fun G A fr H vs Q w ok g => by
    cases ok with
    | cons h1 h2 =>
      cases h2
      obtain ⟨a0, ws, rfl, hg, hall⟩ := dt_tup h1
      exact ⟨a0, ws, rfl, .inr (SqT.of (w.gh _ _ hg)), g.here ⟨rfl, rfl⟩ w (by rw [hall.length]; exact .int _)⟩) hg (by decide) (by decide) he hpl
theorem pv_lenO {xs : List PyData} {m : Nat} (hm : X.mg "len" = none) (ha : PVA X ds cs [a] [.own m]) (hk : cs[m]? = some (some (.lst xs))) (hg : Gl X "len" := by rfl) (he : starEach [a] X.env = (false, eval a X.env) :: starEach [] X.env := by rfl) (hpl : (backTo pos (starEach [] X.env)).any (·.1) = false := by rfl) : PV X ds cs (.Call (.Name "len" p) [a] [] pos) (.d (.int xs.length)) :=
  pv_callB call_len_seq boot_len hm ha (fun G A fr H vs Q w ok g => by
    cases ok with
    | cons h1 h2 =>
      cases h2
      obtain ⟨_, a0, l0, ea, rfl⟩ := h1
      obtain ⟨a1, ws, eb, hH, hall⟩ := w.cell m _ hk
      rw [ea] at eb
      cases eb
      exact ⟨a0, ws, rfl, .inl (SqL.of hH), g.here ⟨rfl, rfl⟩ w (by rw [hall.length]; exact .int _)⟩) hg (by decide) (by decide) he hpl
theorem pv_lenR {ns : List Int} (hm : X.mg "len" = none) (ha : PVA X ds cs [a] [.ro ns]) (hg : Gl X "len" := by rfl) (he : starEach [a] X.env = (false, eval a X.env) :: starEach [] X.env := by rfl) (hpl : (backTo pos (starEach [] X.env)).any (·.1) = false := by rfl) : PV X ds cs (.Call (.Name "len" p) [a] [] pos) (.d (.int ns.length)) :=
  pv_callB call_len_seq boot_len hm ha (fun G A fr H vs Q w ok g => by
    cases ok with
    | cons h1 h2 =>
      cases h2
      obtain ⟨a0, rfl, hq⟩ := h1
      exact ⟨a0, _, rfl, .inl (sqL_mono w.gh hq), g.here ⟨rfl, rfl⟩ w (by rw [List.length_map]; exact .int _)⟩) hg (by decide) (by decide) he hpl
theorem pv_sumL {ns : List Int} (hm : X.mg "sum" = none) (ha : PVA X ds cs [a] [.d (.list (ns.map .int))]) (hc : X.calm = true := by rfl) (hg : Gl X "sum" := by rfl) (he : starEach [a] X.env = (false, eval a X.env) :: starEach [] X.env := by rfl) (hpl : (backTo pos (starEach [] X.env)).any (·.1) = false := by rfl) : PV X ds cs (.Call (.Name "sum" p) [a] [] pos) (.d (.int ns.sum)) :=
  pv_callB (DLR.cr_sum2 hc) (by decide +kernel) hm ha (fun G A fr H vs Q w ok g => by
    cases ok with
    | cons h1 h2 =>
      cases h2
      obtain ⟨a0, ws, rfl, hg, hall⟩ := dt_lst h1
      rw [hall.ints] at hg
      exact .inl ⟨a0, ns, rfl, SqL.of (w.gh _ _ hg), g.here ⟨rfl, rfl⟩ w (.int _)⟩) hg (by decide) (by decide) he hpl
theorem pv_sumT {ns : List Int} (hm : X.mg "sum" = none) (ha : PVA X ds cs [a] [.d (.tuple (ns.map .int))]) (hc : X.calm = true := by rfl) (hg : Gl X "sum" := by rfl) (he : starEach [a] X.env = (false, eval a X.env) :: starEach [] X.env := by rfl) (hpl : (backTo pos (starEach [] X.env)).any (·.1) = false := by rfl) : PV X ds cs (.Call (.Name "sum" p) [a] [] pos) (.d (.int ns.sum)) :=
  pv_callB (DLR.cr_sum2 hc) (by decide +kernel) hm ha (fun G A fr H vs Q w ok g => by
    cases ok with
    | cons h1 h2 =>
      cases h2
      obtain ⟨a0, ws, rfl, hg, hall⟩ := dt_tup h1
      rw [hall.ints] at hg
      exact .inr ⟨a0, ns, rfl, SqT.of (w.gh _ _ hg), g.here ⟨rfl, rfl⟩ w (.int _)⟩) hg (by decide) (by decide) he hpl
theorem pv_minL {ns : List Int} {m : Int} (hm : X.mg "min" = none) (ha : PVA X ds cs [a] [.d (.list (ns.map .int))]) (h1 : m ∈ ns) (h2 : ∀ y ∈ ns, m ≤ y) (hc : X.calm = true := by rfl) (hg : Gl X "min" := by rfl) (he : starEach [a] X.env = (false, eval a X.env) :: starEach [] X.env := by rfl) (hpl : (backTo pos (starEach [] X.env)).any (·.1) = false := by rfl) : PV X ds cs (.Call (.Name "min" p) [a] [] pos) (.d (.int m)) :=
  pv_callB (cr_min hc) (by decide +kernel) hm ha (fun G A fr H vs Q w ok g => by
    cases ok with
    | cons k1 k2 =>
      cases k2
      obtain ⟨a0, ws, rfl, hg, hall⟩ := dt_lst k1
      rw [hall.ints] at hg
      refine ⟨a0, ns, rfl, SqL.of (w.gh _ _ hg), List.length_pos_of_mem h1, fun m' q1 q2 => ?_⟩
      have e : m' = m := Int.le_antisymm (q2 m h1) (h2 m' q1)
      rw [e]
      exact g.here ⟨rfl, rfl⟩ w (.int _)) hg (by decide) (by decide) he hpl
theorem pv_maxL {ns : List Int} {m : Int} (hm : X.mg "max" = none) (ha : PVA X ds cs [a] [.d (.list (ns.map .int))]) (h1 : m ∈ ns) (h2 : ∀ y ∈ ns, y ≤ m) (hc : X.calm = true := by rfl) (hg : Gl X "max" := by rfl) (he : starEach [a] X.env = (false, eval a X.env) :: starEach [] X.env := by rfl) (hpl : (backTo pos (starEach [] X.env)).any (·.1) = false := by rfl) : PV X ds cs (.Call (.Name "max" p) [a] [] pos) (.d (.int m)) :=
  pv_callB (cr_max hc) (by decide +kernel) hm ha (fun G A fr H vs Q w ok g => by
    cases ok with
    | cons k1 k2 =>
      cases k2
      obtain ⟨a0, ws, rfl, hg, hall⟩ := dt_lst k1
      rw [hall.ints] at hg
      refine ⟨a0, ns, rfl, SqL.of (w.gh _ _ hg), List.length_pos_of_mem h1, fun m' q1 q2 => ?_⟩
      have e : m' = m := Int.le_antisymm (h2 m' q1) (q2 m h1)
      rw [e]
      exact g.here ⟨rfl, rfl⟩ w (.int _)) hg (by decide) (by decide) he hpl
theorem pv_min2 (hm : X.mg "min" = none) (ha : PVA X ds cs [a, b] [.d (.int i), .d (.int j)]) (hc : X.calm = true := by rfl) (hg : Gl X "min" := by rfl) (he : starEach [a, b] X.env = (false, eval a X.env) :: starEach [b] X.env := by rfl) (hpl : (backTo pos (starEach [b] X.env)).any (·.1) = false := by rfl) : PV X ds cs (.Call (.Name "min" p) [a, b] [] pos) (.d (.int (if j < i then j else i))) :=
  pv_callB (call_min2 hc) (by decide +kernel) hm ha (fun G A fr H vs Q w ok g => by
    cases ok with
    | cons k1 k2 =>
      cases k2 with
      | cons k3 k4 =>
        cases k4; cases k1; cases k3
        exact ⟨i, j, rfl, g.here ⟨rfl, rfl⟩ w (.int _)⟩) hg (by decide) (by decide) he hpl
theorem pv_max2 (hm : X.mg "max" = none) (ha : PVA X ds cs [a, b] [.d (.int i), .d (.int j)]) (hc : X.calm = true := by rfl) (hg : Gl X "max" := by rfl) (he : starEach [a, b] X.env = (false, eval a X.env) :: starEach [b] X.env := by rfl) (hpl : (backTo pos (starEach [b] X.env)).any (·.1) = false := by rfl) : PV X ds cs (.Call (.Name "max" p) [a, b] [] pos) (.d (.int (if j > i then j else i))) :=
  pv_callB (call_max2 hc) (by decide +kernel) hm ha (fun G A fr H vs Q w ok g => by
    cases ok with
    | cons k1 k2 =>
      cases k2 with
      | cons k3 k4 =>
        cases k4; cases k1; cases k3
        exact ⟨i, j, rfl, g.here ⟨rfl, rfl⟩ w (.int _)⟩) hg (by decide) (by decide) he hpl
theorem pv_abs (hm : X.mg "abs" = none) (ha : PVA X ds cs [a] [.d (.int i)]) (hg : Gl X "abs" := by rfl) (he : starEach [a] X.env = (false, eval a X.env) :: starEach [] X.env := by rfl) (hpl : (backTo pos (starEach [] X.env)).any (·.1) = false := by rfl) : PV X ds cs (.Call (.Name "abs" p) [a] [] pos) (.d (.int (if i < 0 then -i else i))) :=
  pv_callB call_abs (by decide +kernel) hm ha (fun G A fr H vs Q w ok g => by
    cases ok with
    | cons k1 k2 =>
      cases k2; cases k1
      exact ⟨i, rfl, g.here ⟨rfl, rfl⟩ w (.int _)⟩) hg (by decide) (by decide) he hpl
theorem pv_intI (hm : X.mg "int" = none) (ha : PVA X ds cs [a] [.d (.int i)]) (hg : Gl X "int" := by rfl) (he : starEach [a] X.env = (false, eval a X.env) :: starEach [] X.env := by rfl) (hpl : (backTo pos (starEach [] X.env)).any (·.1) = false := by rfl) : PV X ds cs (.Call (.Name "int" p) [a] [] pos) (.d (.int i)) :=
  pv_callTy call_int1 (by decide +kernel) hm ha (fun G A fr H vs Q w ok g => by
    cases ok with
    | cons k1 k2 =>
      cases k2; cases k1
      exact .inl ⟨i, rfl, g.here ⟨rfl, rfl⟩ w (.int _)⟩) hg (by decide) (by decide) he hpl
theorem pv_intB {q : Bool} (hm : X.mg "int" = none) (ha : PVA X ds cs [a] [.d (.bool q)]) (hg : Gl X "int" := by rfl) (he : starEach [a] X.env = (false, eval a X.env) :: starEach [] X.env := by rfl) (hpl : (backTo pos (starEach [] X.env)).any (·.1) = false := by rfl) : PV X ds cs (.Call (.Name "int" p) [a] [] pos) (.d (.int (if q then 1 else 0))) :=
  pv_callTy call_int1 (by decide +kernel) hm ha (fun G A fr H vs Q w ok g => by
    cases ok with
    | cons k1 k2 =>
      cases k2; cases k1
      exact .inr ⟨q, rfl, g.here ⟨rfl, rfl⟩ w (.int _)⟩) hg (by decide) (by decide) he hpl
theorem pv_allL {bs : List Bool} (hm : X.mg "all" = none) (ha : PVA X ds cs [a] [.d (.list (bs.map .bool))]) (hc : X.calm = true := by rfl) (hg : Gl X "all" := by rfl) (he : starEach [a] X.env = (false, eval a X.env) :: starEach [] X.env := by rfl) (hpl : (backTo pos (starEach [] X.env)).any (·.1) = false := by rfl) : PV X ds cs (.Call (.Name "all" p) [a] [] pos) (.d (.bool (bs.all id))) :=
  pv_callB (cr_all hc) (by decide +kernel) hm ha (fun G A fr H vs Q w ok g => by
    cases ok with
    | cons k1 k2 =>
      cases k2
      obtain ⟨a0, ws, rfl, hg, hall⟩ := dt_lst k1
      rw [hall.bools] at hg
      exact ⟨a0, bs, rfl, SqL.of (w.gh _ _ hg), g.here ⟨rfl, rfl⟩ w (.bl _)⟩) hg (by decide) (by decide) he hpl
theorem pv_anyL {bs : List Bool} (hm : X.mg "any" = none) (ha : PVA X ds cs [a] [.d (.list (bs.map .bool))]) (hc : X.calm = true := by rfl) (hg : Gl X "any" := by rfl) (he : starEach [a] X.env = (false, eval a X.env) :: starEach [] X.env := by rfl) (hpl : (backTo pos (starEach [] X.env)).any (·.1) = false := by rfl) : PV X ds cs (.Call (.Name "any" p) [a] [] pos) (.d (.bool (bs.any id))) :=
  pv_callB (cr_any hc) (by decide +kernel) hm ha (fun G A fr H vs Q w ok g => by
    cases ok with
    | cons k1 k2 =>
      cases k2
      obtain ⟨a0, ws, rfl, hg, hall⟩ := dt_lst k1
      rw [hall.bools] at hg
      exact ⟨a0, bs, rfl, SqL.of (w.gh _ _ hg), g.here ⟨rfl, rfl⟩ w (.bl _)⟩) hg (by decide) (by decide) he hpl

/-! ### list(..), tuple(..), sorted(..) -/
theorem pd_listL {xs : List PyData} (hm : X.mg "list" = none) (ha : PVA X ds cs [a] [.d (.list xs)]) (r : R cs (.d (.list xs)) ∨ R (cs ++ [some (.lst xs)]) (.own cs.length)) (hg : Gl X "list" := by rfl) (he : starEach [a] X.env = (false, eval a X.env) :: starEach [] X.env := by rfl) (hpl : (backTo pos (starEach [] X.env)).any (·.1) = false := by rfl) : PD X ds cs (.Call (.Name "list" p) [a] [] pos) R :=
  pv_callTy call_list_of (by decide +kernel) hm ha (fun G A fr H vs Q w ok g => by
    cases ok with
    | cons k1 k2 =>
      cases k2
      obtain ⟨a0, ws, rfl, hg, hall⟩ := dt_lst k1
      refine ⟨a0, ws, rfl, .inl (SqL.of (w.gh _ _ hg)), fun l hl => ?_⟩
      rcases r with r | r
      · exact g.lst r w hall hl
      · exact g.lstO r w hall hl) hg (by decide) (by decide) he hpl
theorem pd_listT {xs : List PyData} (hm : X.mg "list" = none) (ha : PVA X ds cs [a] [.d (.tuple xs)]) (r : R cs (.d (.list xs)) ∨ R (cs ++ [some (.lst xs)]) (.own cs.length)) (hg : Gl X "list" := by rfl) (he : starEach [a] X.env = (false, eval a X.env) :: starEach [] X.env := by rfl) (hpl : (backTo pos (starEach [] X.env)).any (·.1) = false := by rfl) : PD X ds cs (.Call (.Name "list" p) [a] [] pos) R :=
  pv_callTy call_list_of (by decide +kernel) hm ha (fun G A fr H vs Q w ok g => by
    cases ok with
    | cons k1 k2 =>
      cases k2
      obtain ⟨a0, ws, rfl, hg, hall⟩ := dt_tup k1
      refine ⟨a0, ws, rfl, .inr (SqT.of (w.gh _ _ hg)), fun l hl => ?_⟩
      rcases r with r | r
      · exact g.lst r w hall hl
      · exact g.lstO r w hall hl) hg (by decide) (by decide) he hpl
theorem pv_listL {xs : List PyData} (hm : X.mg "list" = none) (ha : PVA X ds cs [a] [.d (.list xs)]) (hg : Gl X "list" := by rfl) (he : starEach [a] X.env = (false, eval a X.env) :: starEach [] X.env := by rfl) (hpl : (backTo pos (starEach [] X.env)).any (·.1) = false := by rfl) : PV X ds cs (.Call (.Name "list" p) [a] [] pos) (.d (.list xs)) := pd_listL hm ha (.inl ⟨rfl, rfl⟩) hg he hpl
theorem pv_listT {xs : List PyData} (hm : X.mg "list" = none) (ha : PVA X ds cs [a] [.d (.tuple xs)]) (hg : Gl X "list" := by rfl) (he : starEach [a] X.env = (false, eval a X.env) :: starEach [] X.env := by rfl) (hpl : (backTo pos (starEach [] X.env)).any (·.1) = false := by rfl) : PV X ds cs (.Call (.Name "list" p) [a] [] pos) (.d (.list xs)) := pd_listT hm ha (.inl ⟨rfl, rfl⟩) hg he hpl
theorem pv_tupleL {xs : List PyData} (hm : X.mg "tuple" = none) (ha : PVA X ds cs [a] [.d (.list xs)]) (hg : Gl X "tuple" := by rfl) (he : starEach [a] X.env = (false, eval a X.env) :: starEach [] X.env := by rfl) (hpl : (backTo pos (starEach [] X.env)).any (·.1) = false := by rfl) : PV X ds cs (.Call (.Name "tuple" p) [a] [] pos) (.d (.tuple xs)) :=
  pv_callTy call_tuple_of (by decide +kernel) hm ha (fun G A fr H vs Q w ok g => by
    cases ok with
    | cons k1 k2 =>
      cases k2
      obtain ⟨a0, ws, rfl, hg, hall⟩ := dt_lst k1
      exact ⟨a0, ws, rfl, .inl ⟨SqL.of (w.gh _ _ hg), fun l hl => g.tup ⟨rfl, rfl⟩ w hall hl⟩⟩) hg (by decide) (by decide) he hpl
/-- the same as an effect: its argument a call that draws -/
theorem pd_tupleL {Ra : Cells → List SV → Prop} (hm : X.mg "tuple" = none) (ha : PDA X ds cs [a] Ra) (k : ∀ cs1 ys, Ra cs1 ys → ∃ xs, ys = [.d (.list xs)] ∧ R cs1 (.d (.tuple xs))) (hg : Gl X "tuple" := by rfl) (he : starEach [a] X.env = (false, eval a X.env) :: starEach [] X.env := by rfl) (hpl : (backTo pos (starEach [] X.env)).any (·.1) = false := by rfl) : PD X ds cs (.Call (.Name "tuple" p) [a] [] pos) R :=
  pd_callTy call_tuple_of (by decide +kernel) hm ha (fun cs1 ys hr G A fr H vs Q w ok g => by
    obtain ⟨xs, rfl, hR⟩ := k cs1 ys hr
    cases ok with
    | cons k1 k2 =>
      cases k2
      obtain ⟨a0, ws, rfl, hg, hall⟩ := dt_lst k1
      exact ⟨a0, ws, rfl, .inl ⟨SqL.of (w.gh _ _ hg), fun l hl => g.tup hR w hall hl⟩⟩) hg (by decide) (by decide) he hpl
theorem pv_tupleT {xs : List PyData} (hm : X.mg "tuple" = none) (ha : PVA X ds cs [a] [.d (.tuple xs)]) (hg : Gl X "tuple" := by rfl) (he : starEach [a] X.env = (false, eval a X.env) :: starEach [] X.env := by rfl) (hpl : (backTo pos (starEach [] X.env)).any (·.1) = false := by rfl) : PV X ds cs (.Call (.Name "tuple" p) [a] [] pos) (.d (.tuple xs)) :=
  pv_callTy call_tuple_of (by decide +kernel) hm ha (fun G A fr H vs Q w ok g => by
    cases ok with
    | cons k1 k2 =>
      cases k2
      obtain ⟨a0, ws, rfl, hg, hall⟩ := dt_tup k1
      exact ⟨a0, ws, rfl, .inr ⟨SqT.of (w.gh _ _ hg), g.here ⟨rfl, rfl⟩ w k1⟩⟩) hg (by decide) (by decide) he hpl
theorem sort_same {l m : List Int} (h : l.Perm m) (h1 : l.Pairwise (· ≤ ·)) (h2 : m.Pairwise (· ≤ ·)) : l = m := List.Perm.eq_of_pairwise (fun _ _ _ _ a b => Int.le_antisymm a b) h1 h2 h
theorem pv_sortedT {ns ms : List Int} (hm : X.mg "sorted" = none) (ha : PVA X ds cs [a] [.d (.tuple (ns.map .int))]) (h64 : ns.length < 64) (hp : ms.Perm ns) (hs : ms.Pairwise (· ≤ ·)) (hg : Gl X "sorted" := by rfl) (he : starEach [a] X.env = (false, eval a X.env) :: starEach [] X.env := by rfl) (hpl : (backTo pos (starEach [] X.env)).any (·.1) = false := by rfl) : PV X ds cs (.Call (.Name "sorted" p) [a] [] pos) (.d (.list (ms.map .int))) :=
  pv_callB DLR.cr_sortedT (by decide +kernel) hm ha (fun G A fr H vs Q w ok g => by
    cases ok with
    | cons k1 k2 =>
      cases k2
      obtain ⟨a0, ws, rfl, hg, hall⟩ := dt_tup k1
      rw [hall.ints] at hg
      refine ⟨a0, ns, rfl, SqT.of (w.gh _ _ hg), h64, fun ns' l q1 q2 hl => ?_⟩
      have e : ns' = ms := sort_same (q1.trans hp.symm) q2 hs
      rw [e]
      exact g.lst ⟨rfl, rfl⟩ w (.ofInts ms) hl) hg (by decide) (by decide) he hpl
/-- list(range(n)) -/
theorem pv_listRange {n : Int} {q : Pos} (hm : X.mg "list" = none) (hmr : X.mg "range" = none) (ha : PV X ds cs e (.d (.int n))) (hn : 0 ≤ n ∧ n ≤ 1000000) (hc : X.calm = true := by rfl) (hg : Gl X "list" := by rfl) (hgr : Gl X "range" := by rfl) (na : starEach [e] X.env = (false, eval e X.env) :: starEach [] X.env := by rfl) (na2 : starEach [.Call (.Name "range" p2) [e] [] q] X.env = (false, eval (.Call (.Name "range" p2) [e] [] q) X.env) :: starEach [] X.env := by rfl) :
    PV X ds cs (.Call (.Name "list" p) [.Call (.Name "range" p2) [e] [] q] [] pos) (.d (.list (rgD 0 n.toNat))) := by
  refine pe_imp (pe_listRg hc hg hm (prg_1 hgr hmr ha na) na2) fun σ H Q ⟨G, A, fr, w, sl, g⟩ => ?_
  refine ⟨G, A, fr, w, sl, fun v z cs1 G1 A1 H1 ⟨r1, r2⟩ e1 a1 l1 w1 ok1 => ?_⟩
  subst r1 r2
  cases ok1
  refine ⟨n, rfl, RgOk.of_le (by omega) (by omega) (by omega) (by omega), fun l hl => (g.step e1 a1 l1).lst ⟨rfl, rfl⟩ w1 ?_ hl⟩
  have e : ∀ m, DtAll G1 ((List.range m).map fun i => V.int (0 + (i : Nat))) (rgD 0 m) := fun m => by
    unfold rgD
    have z : (List.range m).map (fun i => V.int (0 + (i : Nat))) = ((List.range m).map fun i => (0 + (i : Nat) : Int)).map V.int := by rw [List.map_map]; rfl
    have z2 : (List.range m).map (fun i => PyData.int (0 + (i : Nat))) = ((List.range m).map fun i => (0 + (i : Nat) : Int)).map PyData.int := by rw [List.map_map]; rfl
    rw [z, z2]
    exact .ofInts _
  unfold rgV
  rw [show (n - 0).toNat = n.toNat by simp]
  exact e _
/-- tuple(range(n)) -/
theorem pv_tupleRange {n : Int} {q : Pos} (hm : X.mg "tuple" = none) (hmr : X.mg "range" = none) (ha : PV X ds cs e (.d (.int n))) (hn : 0 ≤ n ∧ n ≤ 1000000) (hc : X.calm = true := by rfl) (hg : Gl X "tuple" := by rfl) (hgr : Gl X "range" := by rfl) (na : starEach [e] X.env = (false, eval e X.env) :: starEach [] X.env := by rfl) (na2 : starEach [.Call (.Name "range" p2) [e] [] q] X.env = (false, eval (.Call (.Name "range" p2) [e] [] q) X.env) :: starEach [] X.env := by rfl) :
    PV X ds cs (.Call (.Name "tuple" p) [.Call (.Name "range" p2) [e] [] q] [] pos) (.d (.tuple (rgD 0 n.toNat))) := by
  refine pe_imp (pe_tupRg hc hg hm (prg_1 hgr hmr ha na) na2) fun σ H Q ⟨G, A, fr, w, sl, g⟩ => ?_
  refine ⟨G, A, fr, w, sl, fun v z cs1 G1 A1 H1 ⟨r1, r2⟩ e1 a1 l1 w1 ok1 => ?_⟩
  subst r1 r2
  cases ok1
  refine ⟨n, rfl, RgOk.of_le (by omega) (by omega) (by omega) (by omega), fun l hl => (g.step e1 a1 l1).tup ⟨rfl, rfl⟩ w1 ?_ hl⟩
  have e : ∀ m, DtAll G1 ((List.range m).map fun i => V.int (0 + (i : Nat))) (rgD 0 m) := fun m => by
    unfold rgD
    have z : (List.range m).map (fun i => V.int (0 + (i : Nat))) = ((List.range m).map fun i => (0 + (i : Nat) : Int)).map V.int := by rw [List.map_map]; rfl
    have z2 : (List.range m).map (fun i => PyData.int (0 + (i : Nat))) = ((List.range m).map fun i => (0 + (i : Nat) : Int)).map PyData.int := by rw [List.map_map]; rfl
    rw [z, z2]
    exact .ofInts _
  unfold rgV
  rw [show (n - 0).toNat = n.toNat by simp]
  exact e _
/-- len(set(..)) of ints -/
theorem pv_lenSet {ns : List Int} {q : Pos} (out : List Int) (hm : X.mg "len" = none) (hm2 : X.mg "set" = none) (ha : PV X ds cs a (.d (.list (ns.map .int))) ∨ PV X ds cs a (.d (.tuple (ns.map .int)))) (hl : ns.length ≤ 1000) (h1 : out.Nodup) (h2 : ∀ k, k ∈ out ↔ k ∈ ns) (hc : X.calm = true := by rfl) (hg : Gl X "len" := by rfl) (hg2 : Gl X "set" := by rfl)
    (na : starEach [a] X.env = (false, eval a X.env) :: starEach [] X.env := by rfl) : PV X ds cs (.Call (.Name "len" p) [.Call (.Name "set" p2) [a] [] q] [] pos) (.d (.int (out.length : Nat))) := by
  rcases ha with ha | ha
  all_goals
    refine pe_imp (DLR.pe_lenSetX hg hm hg2 hm2 ha hc na) fun σ H Q ⟨G, A, fr, w, sl, g⟩ => ?_
    refine ⟨G, A, fr, w, sl, fun v z cs1 G1 A1 H1 ⟨r1, r2⟩ e1 a1 l1 w1 ok1 => ?_⟩
    subst r1 r2
    obtain ⟨a0, ws, rfl, hg, hall⟩ := (by first | exact dt_tup ok1 | exact dt_lst ok1)
    rw [hall.ints] at hg
    refine ⟨a0, ns, rfl, (by first | exact .inr (SqT.of (w1.gh _ _ hg)) | exact .inl (SqL.of (w1.gh _ _ hg))), hl, fun o2 q1 q2 => ?_⟩
    rw [DLR.same_len q1 h1 fun k => (q2 k).trans (h2 k).symm]
    exact (g.step e1 a1 l1).here ⟨rfl, rfl⟩ w1 (.int _)

/-! ### + and * of lists and tuples, in -/
theorem pv_catL {xs ys : List PyData} (ha : PV X ds cs a (.d (.list xs))) (hb : PV X ds cs b (.d (.list ys))) (hz : xs.length + ys.length ≤ sizeLine) : PV X ds cs (.BinOp a .Add b pos) (.d (.list (xs ++ ys))) :=
  pv_op op_cat ha hb fun G A fr H v w Q W0 h1 h2 g => by
    obtain ⟨a0, ws, rfl, hg, hall⟩ := dt_lst h1
    obtain ⟨a1, ws1, rfl, hg1, hall1⟩ := dt_lst h2
    exact ⟨a0, a1, ws, ws1, rfl, rfl, W0.gh _ _ hg, W0.gh _ _ hg1, by rw [hall.length, hall1.length]; exact hz, fun l hl => g.lst ⟨rfl, rfl⟩ W0 (hall.append hall1) hl⟩
theorem pv_catT {xs ys : List PyData} (ha : PV X ds cs a (.d (.tuple xs))) (hb : PV X ds cs b (.d (.tuple ys))) (hz : xs.length + ys.length ≤ sizeLine) : PV X ds cs (.BinOp a .Add b pos) (.d (.tuple (xs ++ ys))) :=
  pv_op op_catA ha hb fun G A fr H v w Q W0 h1 h2 g => by
    obtain ⟨a0, ws, rfl, hg, hall⟩ := dt_tup h1
    obtain ⟨a1, ws1, rfl, hg1, hall1⟩ := dt_tup h2
    refine ⟨a0, a1, ws, ws1, rfl, rfl, SqT.of (W0.gh _ _ hg), SqT.of (W0.gh _ _ hg1), by rw [hall.length, hall1.length]; exact hz, fun q => ?_, fun _ q => ?_, fun _ _ l hl => g.tup ⟨rfl, rfl⟩ W0 (hall.append hall1) hl⟩
    · subst q
      have : xs = [] := by cases hall; rfl
      subst this
      exact g.here ⟨rfl, rfl⟩ W0 h2
    · subst q
      have : ys = [] := by cases hall1; rfl
      subst this
      exact g.here ⟨rfl, by rw [List.append_nil]⟩ W0 h1
theorem pv_repL {xs : List PyData} (ha : PV X ds cs a (.d (.list xs))) (hb : PV X ds cs b (.d (.int i))) (hi : -(2 ^ 63) ≤ i ∧ i < 2 ^ 63) (hz : xs.length * i.toNat ≤ sizeLine) : PV X ds cs (.BinOp a .Mult b pos) (.d (.list (List.replicate i.toNat xs).flatten)) :=
  pv_op op_rep ha hb fun G A fr H v w Q W0 h1 h2 g => by
    obtain ⟨a0, ws, rfl, hg, hall⟩ := dt_lst h1
    cases h2
    exact ⟨a0, i, ws, rfl, rfl, W0.gh _ _ hg, hi.1, hi.2, by rw [hall.length]; exact hz, fun l hl => g.lst ⟨rfl, rfl⟩ W0 (hall.rep _) hl⟩
/-- what in answers of flat data -/
def eqF : PyData → PyData → Bool := PyData.eqv
def flatB (d : PyData) : Bool := (flatD d).isSome
theorem flatV_of {G : Hp} {v : V} {d : PyData} (h : Dt G v d) (f : flatB d = true) : flatV v = true := by
  cases h <;> first | rfl | (simp [flatB, flatD] at f)
theorem eqV_of {G : Hp} {v w : V} {d e : PyData} (h : Dt G v d) (k : Dt G w e) (f : flatB d = true) (f2 : flatB e = true) : eqV v w = PyData.eqv d e := by
  cases h <;> cases k <;> first | rfl | (simp [flatB, flatD] at f) | (simp [flatB, flatD] at f2)
theorem flats_of {G : Hp} : ∀ {vs : List V} {xs : List PyData}, DtAll G vs xs → (∀ x ∈ xs, flatB x = true) → vs.all flatV = true
  | _, _, .nil, _ => rfl
  | _, _, .cons h k, f => by
    rw [List.all_cons, flatV_of h (f _ (by simp)), flats_of k fun x hx => f x (by simp [hx])]
    rfl
theorem inV_of {G : Hp} {v : V} {d : PyData} (h : Dt G v d) (f0 : flatB d = true) : ∀ {vs : List V} {xs : List PyData}, DtAll G vs xs → (∀ x ∈ xs, flatB x = true) → inV v vs = xs.any fun y => PyData.eqv y d
  | _, _, .nil, _ => rfl
  | _, _, .cons hh k, f => by
    have ih := inV_of h f0 k fun x hx => f x (by simp [hx])
    unfold inV at ih ⊢
    rw [List.any_cons, List.any_cons, ih, eqV_of hh h (f _ (by simp)) f0]
theorem pv_notinT {xs : List PyData} (ha : PV X ds cs a (.d d)) (hb : PV X ds cs b (.d (.tuple xs))) (f0 : flatB d = true) (f : ∀ x ∈ xs, flatB x = true) (hm : behindInMarks .NotIn b = false := by rfl) : PV X ds cs (.Compare a [.NotIn] [b] pos) (.d (.bool (!(xs.any fun y => PyData.eqv y d)))) :=
  pv_cmp op_notIn_seq ha hb (fun G A fr H v w Q W0 h1 h2 g => by
    obtain ⟨a1, ws1, rfl, hg1, hall1⟩ := dt_tup h2
    refine ⟨a1, ws1, rfl, .inr (SqT.of (W0.gh _ _ hg1)), flatV_of h1 f0, flats_of hall1 f, ?_⟩
    show Q (V.bl (if true = true then !inV v ws1 else inV v ws1)) H
    rw [if_pos rfl, inV_of h1 f0 hall1 f]
    exact g.here ⟨rfl, rfl⟩ W0 (.bl _)) hm
theorem pv_inT {xs : List PyData} (ha : PV X ds cs a (.d d)) (hb : PV X ds cs b (.d (.tuple xs))) (f0 : flatB d = true) (f : ∀ x ∈ xs, flatB x = true) (hm : behindInMarks .In b = false := by rfl) : PV X ds cs (.Compare a [.In] [b] pos) (.d (.bool (xs.any fun y => PyData.eqv y d))) :=
  pv_cmp op_in_seq ha hb (fun G A fr H v w Q W0 h1 h2 g => by
    obtain ⟨a1, ws1, rfl, hg1, hall1⟩ := dt_tup h2
    refine ⟨a1, ws1, rfl, .inr (SqT.of (W0.gh _ _ hg1)), flatV_of h1 f0, flats_of hall1 f, ?_⟩
    show Q (V.bl (if false = true then !inV v ws1 else inV v ws1)) H
    rw [if_neg Bool.false_ne_true, inV_of h1 f0 hall1 f]
    exact g.here ⟨rfl, rfl⟩ W0 (.bl _)) hm

/-! ### methods of lists -/
variable {o : Expr} {apos : Pos}
/-- l.append(e), l one's own -/
theorem pd_append {m : Nat} {Ra : Cells → List SV → Prop} (ho : PV X ds cs o (.own m)) (ha : PDA X ds cs (e :: []) Ra) (k : ∀ cs1 ys, Ra cs1 ys → ∃ d xs, ys = [.d d] ∧ cs1[m]? = some (some (.lst xs)) ∧ xs.length < 1000000 ∧ R (cs1.set m (some (.lst (xs ++ [d])))) (.d .none)) (hk : ∃ xs, cs[m]? = some (some (.lst xs)))
    (hbase : attributeBase o "append" X.env (eval o X.env) = eval o X.env := by rfl)
    (hfew : ((backTo pos (starEach (e :: []) X.env)).all (fun x => !x.1) && (backToKw pos (keywordEach [] X.env)).all (fun x => x.1.isSome)
      && decide ((e :: ([] : List Expr)).length + ([] : List Keyword).length + (if ([] : List Keyword).isEmpty then 0 else 1) < 30)) = true := by rfl)
    (hline : (apos.endLine == pos.line) = true := by rfl) (hs : starEach (e :: []) X.env = (false, eval e X.env) :: starEach [] X.env := by rfl) (hplain : (backTo pos (starEach [] X.env)).any (·.1) = false := by rfl) :
    PD X ds cs (.Call (.Attribute o "append" apos) [e] [] pos) R := by
  refine pe_imp (pe_bm PySem.F.plainAttrs_list PySem.F.slot_list_append PySem.F.type_list_append mt_append ho ha hbase hfew hline hs hplain) fun σ H Q ⟨G, A, fr, w, sl, g⟩ => ?_
  refine ⟨G, A, fr, w, sl, fun v z cs1 G1 A1 H1 ⟨r1, r2⟩ e1 a1 l1 w1 ok1 => ?_⟩
  subst r1 r2
  obtain ⟨hm1, a0, l0, ea, rfl⟩ := ok1
  obtain ⟨xs0, hx0⟩ := hk
  obtain ⟨a0', vs0, ea', hH, _⟩ := w1.cell m _ hx0
  rw [ea] at ea'; cases ea'
  refine ⟨.inl ⟨rfl, _, SqL.of hH⟩, G1, A1, fr, w1, sl.mono e1 a1 l1, fun us ys cs2 G2 A2 H2 r3 e2 a2 l2 w2 ok2 => ?_⟩
  obtain ⟨d, xs, rfl, hx, hl, hR⟩ := k cs2 ys r3
  cases ok2 with
  | cons k1 k2 =>
    cases k2
    have ea2 : A2 m = [a0] := (a2 m hm1).trans ea
    obtain ⟨b0, vs, eb, hH2, hall⟩ := w2.cell m _ hx
    rw [ea2] at eb; cases eb
    refine ⟨a0, vs, _, rfl, rfl, hH2, by rw [hall.length]; exact Nat.lt_trans hl (by decide), ?_⟩
    have w3 := w2.write (c' := .lst (xs ++ [d])) hx (H' := upd H2 a0 (.lst (vs ++ [_]))) (fun a o ha ho => by rw [upd_ne (fun e => ha (by rw [ea2, e]; simp))]; exact ho) ⟨a0, _, ea2, upd_same, hall.append (.cons k1 .nil)⟩
    exact g _ _ _ G2 A2 _ hR (e1.trans e2) (a1.trans a2 l1) (by rw [List.length_set]; exact Nat.le_trans l1 l2) w3 .non
/-- l.pop(i), l one's own -/
theorem pd_popAt {m : Nat} {Ra : Cells → List SV → Prop} (ho : PV X ds cs o (.own m)) (ha : PDA X ds cs (e :: []) Ra) (k : ∀ cs1 ys, Ra cs1 ys → ∃ (j : Nat) (xs : List PyData) (d : PyData), ys = [.d (.int j)] ∧ cs1[m]? = some (some (.lst xs)) ∧ xs[j]? = some d ∧ j < 1000000 ∧ R (cs1.set m (some (.lst (xs.eraseIdx j)))) (.d d)) (hk : ∃ xs, cs[m]? = some (some (.lst xs)))
    (hbase : attributeBase o "pop" X.env (eval o X.env) = eval o X.env := by rfl)
    (hfew : ((backTo pos (starEach (e :: []) X.env)).all (fun x => !x.1) && (backToKw pos (keywordEach [] X.env)).all (fun x => x.1.isSome)
      && decide ((e :: ([] : List Expr)).length + ([] : List Keyword).length + (if ([] : List Keyword).isEmpty then 0 else 1) < 30)) = true := by rfl)
    (hline : (apos.endLine == pos.line) = true := by rfl) (hs : starEach (e :: []) X.env = (false, eval e X.env) :: starEach [] X.env := by rfl) (hplain : (backTo pos (starEach [] X.env)).any (·.1) = false := by rfl) :
    PD X ds cs (.Call (.Attribute o "pop" apos) [e] [] pos) R := by
  refine pe_imp (pe_bm PySem.F.plainAttrs_list PySem.F.slot_list_pop PySem.F.type_list_pop mt_popAt ho ha hbase hfew hline hs hplain) fun σ H Q ⟨G, A, fr, w, sl, g⟩ => ?_
  refine ⟨G, A, fr, w, sl, fun v z cs1 G1 A1 H1 ⟨r1, r2⟩ e1 a1 l1 w1 ok1 => ?_⟩
  subst r1 r2
  obtain ⟨hm1, a0, l0, ea, rfl⟩ := ok1
  obtain ⟨xs0, hx0⟩ := hk
  obtain ⟨a0', vs0, ea', hH, _⟩ := w1.cell m _ hx0
  rw [ea] at ea'; cases ea'
  refine ⟨.inl ⟨rfl, _, SqL.of hH⟩, G1, A1, fr, w1, sl.mono e1 a1 l1, fun us ys cs2 G2 A2 H2 r3 e2 a2 l2 w2 ok2 => ?_⟩
  obtain ⟨j, xs, d, rfl, hx, hj, hl, hR⟩ := k cs2 ys r3
  cases ok2 with
  | cons k1 k2 =>
    cases k2
    cases k1
    have ea2 : A2 m = [a0] := (a2 m hm1).trans ea
    obtain ⟨b0, vs, eb, hH2, hall⟩ := w2.cell m _ hx
    rw [ea2] at eb; cases eb
    obtain ⟨y, hy, oky⟩ := hall.get hj
    have hjl : j < vs.length := (List.getElem?_eq_some_iff.mp hy).1
    refine ⟨a0, vs, j, j, y, rfl, rfl, hH2, by omega, by omega, ?_, hy, ?_⟩
    · rw [seqIndex_of (by omega) (by omega)]; simp
    have w3 := w2.write (c' := .lst (xs.eraseIdx j)) hx (H' := upd H2 a0 (.lst (vs.eraseIdx j))) (fun a o ha ho => by rw [upd_ne (fun e => ha (by rw [ea2, e]; simp))]; exact ho) ⟨a0, _, ea2, upd_same, hall.eraseIdx j⟩
    exact g _ _ _ G2 A2 _ hR (e1.trans e2) (a1.trans a2 l1) (by rw [List.length_set]; exact Nat.le_trans l1 l2) w3 oky
/-- l.index(e), a list of flat things -/
theorem pv_index {xs : List PyData} {j : Nat} {y : PyData} (ho : PV X ds cs o (.d (.list xs))) (ha : PVA X ds cs (e :: []) [.d d]) (f0 : flatB d = true) (f : ∀ x ∈ xs, flatB x = true) (hj : xs[j]? = some y) (hy : PyData.eqv y d = true) (hno : ∀ (m : Nat) (z : PyData), m < j → xs[m]? = some z → PyData.eqv z d = false)
    (hbase : attributeBase o "index" X.env (eval o X.env) = eval o X.env := by rfl)
    (hfew : ((backTo pos (starEach (e :: []) X.env)).all (fun x => !x.1) && (backToKw pos (keywordEach [] X.env)).all (fun x => x.1.isSome)
      && decide ((e :: ([] : List Expr)).length + ([] : List Keyword).length + (if ([] : List Keyword).isEmpty then 0 else 1) < 30)) = true := by rfl)
    (hline : (apos.endLine == pos.line) = true := by rfl) (hs : starEach (e :: []) X.env = (false, eval e X.env) :: starEach [] X.env := by rfl) (hplain : (backTo pos (starEach [] X.env)).any (·.1) = false := by rfl) :
    PV X ds cs (.Call (.Attribute o "index" apos) [e] [] pos) (.d (.int j)) := by
  refine pe_imp (pe_bm PySem.F.plainAttrs_list PySem.F.slot_list_index PySem.F.type_list_index mt_index ho ha hbase hfew hline hs hplain) fun σ H Q ⟨G, A, fr, w, sl, g⟩ => ?_
  refine ⟨G, A, fr, w, sl, fun v z cs1 G1 A1 H1 ⟨r1, r2⟩ e1 a1 l1 w1 ok1 => ?_⟩
  subst r1 r2
  obtain ⟨a0, ws, rfl, hg, hall⟩ := dt_lst ok1
  refine ⟨.inl ⟨rfl, _, SqL.of (w1.gh _ _ hg)⟩, G1, A1, fr, w1, sl.mono e1 a1 l1, fun us ys cs2 G2 A2 H2 ⟨r3, r4⟩ e2 a2 l2 w2 ok2 => ?_⟩
  subst r3 r4
  cases ok2 with
  | cons k1 k2 =>
    cases k2
    have hall2 := hall.mono e2
    obtain ⟨u, hu, oku⟩ := hall2.get hj
    have fy : flatB y = true := f _ (List.mem_of_getElem? hj)
    refine ⟨a0, ws, _, j, u, rfl, rfl, SqL.of (w2.gh _ _ (e2 _ _ hg)), flatV_of k1 f0, flats_of hall2 f, hu, (eqV_of oku k1 fy f0).trans hy, fun m z' hm hz => ?_, (g.step (e1.trans e2) (a1.trans a2 l1) (Nat.le_trans l1 l2)).here ⟨rfl, rfl⟩ w2 (.int _)⟩
    obtain ⟨d', h1, h2⟩ := hall2.get' hz
    exact (eqV_of h2 k1 (f _ (List.mem_of_getElem? h1)) f0).trans (hno m d' hm h1)
end
end DL
set_option Elab.async false
set_option linter.all false
set_option maxRecDepth 100000
set_option maxHeartbeats 2000000
/-! DL6: statements over data. -/
namespace DL
open PySem PySem.Spec PyProof.Rows L2

structure DE where
  nx : Slots → Cells → Prop
  rt : SV → Cells → Prop
  bk : Slots → Cells → Prop := fun _ _ => False
  ct : Slots → Cells → Prop := fun _ _ => False
def GoS (K : PySem.W.Frag) (G : Hp) (A : Nat → List Addr) (n : Nat) (fr : Hp) (P : Slots → Cells → Prop) (Q : L2.St → Hp → Prop) : Prop :=
  ∀ ds' cs' G' A' σ' H', P ds' cs' → Ex G G' → AEx n A A' → n ≤ cs'.length → W G' A' cs' fr H' → Sl K G' A' cs'.length σ' ds' → Q σ' H'
structure GoE (K : PySem.W.Frag) (G : Hp) (A : Nat → List Addr) (n : Nat) (fr : Hp) (P : DE) (D : Ends) : Prop where
  nx : GoS K G A n fr P.nx D.nx
  rt : Go K G A n fr (fun cs sv => P.rt sv cs) D.rt
  bk : GoS K G A n fr P.bk D.bk
  ct : GoS K G A n fr P.ct D.ct
def tSD (K : PySem.W.Frag) (ds : Slots) (cs : Cells) (P : DE) : TS := fun D σ H => ∃ G A fr, W G A cs fr H ∧ Sl K G A cs.length σ ds ∧ GoE K G A cs.length fr P D
def S1 (X : Cx) (ds : Slots) (cs : Cells) (st : Stmt) (P : DE) : Prop := PS X st (tSD X.K ds cs P)
def SD (X : Cx) (ds : Slots) (cs : Cells) (sts : List Stmt) (P : DE) : Prop := PSs X sts (tSD X.K ds cs P)
section
variable {K : PySem.W.Frag} {G G' : Hp} {A A' : Nat → List Addr} {n n' : Nat} {fr H : Hp} {P : Slots → Cells → Prop} {Q : L2.St → Hp → Prop} {ds : Slots} {cs : Cells} {σ : L2.St} {D : Ends} {PE' : DE}
theorem GoS.step (g : GoS K G A n fr P Q) (e : Ex G G') (a : AEx n A A') (l : n ≤ n') : GoS K G' A' n' fr P Q := fun ds' cs' G2 A2 σ2 H2 r e2 a2 l2 w s => g ds' cs' G2 A2 σ2 H2 r (e.trans e2) (a.trans a2 l) (Nat.le_trans l l2) w s
theorem GoS.here (g : GoS K G A cs.length fr P Q) (r : P ds cs) (w : W G A cs fr H) (s : Sl K G A cs.length σ ds) : Q σ H := g ds cs G A σ H r (Ex.refl _) (AEx.refl _ _) (Nat.le_refl _) w s
theorem GoE.step (g : GoE K G A n fr PE' D) (e : Ex G G') (a : AEx n A A') (l : n ≤ n') : GoE K G' A' n' fr PE' D := ⟨g.nx.step e a l, g.rt.step e a l, g.bk.step e a l, g.ct.step e a l⟩
end
abbrev SubAsg (X : Cx) (o i : Expr) (pos : Pos) : Prop := ∀ v, assign (.Subscript o i pos) X.env v = (do
      let ov ← holding [v] (eval o X.env)
      let iv ← holding [v, ov] (eval i X.env)
      standAt pos
      holding [v, ov, iv] (setItem ov iv v)
      release [v, ov, iv] [])
section
variable {X : Cx} {st : Stmt} {sts rest : List Stmt} {t t' : TS} {ds : Slots} {cs : Cells} {P : DE} {e a b c o : Expr} {pos p1 p2 : Pos} {R : Cells → SV → Prop} {sv : SV} {x : Str}
theorem ps_imp (h : PS X st t) (k : ∀ D σ H, t' D σ H → t D σ H) : PS X st t' := ⟨fun pins s σ H D I q => h.run pins s σ H D I (k D σ H q)⟩
theorem pss_imp (h : PSs X sts t) (k : ∀ D σ H, t' D σ H → t D σ H) : PSs X sts t' := ⟨fun pins s σ H D I q => h.run pins s σ H D I (k D σ H q)⟩
theorem pss_any {ι : Type} {P : ι → Prop} {t : ι → TS} (h : ∀ i, P i → PSs X sts (t i)) : PSs X sts (fun D σ H => ∃ i, P i ∧ t i D σ H) := ⟨fun pins s σ H D I ⟨i, p, q⟩ => (h i p).run pins s σ H D I q⟩
theorem SD.imp {P' : DE} (h : SD X ds cs sts P) (h1 : ∀ ds cs, P.nx ds cs → P'.nx ds cs) (h2 : ∀ v cs, P.rt v cs → P'.rt v cs) (h3 : ∀ ds cs, P.bk ds cs → P'.bk ds cs) (h4 : ∀ ds cs, P.ct ds cs → P'.ct ds cs) : SD X ds cs sts P' :=
  pss_imp h fun D σ H ⟨G, A, fr, w, sl, g⟩ => ⟨G, A, fr, w, sl, ⟨fun ds' cs' G' A' σ' H' r => g.nx _ _ _ _ _ _ (h1 _ _ r), fun v sv cs' G' A' H' r => g.rt _ _ _ _ _ _ (h2 _ _ r), fun ds' cs' G' A' σ' H' r => g.bk _ _ _ _ _ _ (h3 _ _ r), fun ds' cs' G' A' σ' H' r => g.ct _ _ _ _ _ _ (h4 _ _ r)⟩⟩
/-- less is known of the names -/
theorem SD.weak {ds' : Slots} (h : SD X ds' cs sts P) (hl : ds'.length = ds.length) (hd : ∀ (i : Nat) (sv : SV), ds'[i]? = some (some sv) → ds[i]? = some (some sv)) : SD X ds cs sts P :=
  pss_imp h fun D σ H ⟨G, A, fr, w, sl, g⟩ => ⟨G, A, fr, w, sl.weak hl hd, g⟩
theorem sd_nil (r : P.nx ds cs) : SD X ds cs [] P := pss_imp pss_nil fun D σ H ⟨G, A, fr, w, sl, g⟩ => g.nx.here r w sl
theorem sd_cons {M : Slots → Cells → Prop} (h1 : S1 X ds cs st { P with nx := M }) (h2 : ∀ ds' cs', M ds' cs' → SD X ds' cs' rest P) : SD X ds cs (st :: rest) P := by
  refine pss_imp (pss_cons h1 (pss_any (ι := Slots × Cells) (P := fun p => M p.1 p.2) (t := fun p => tSD X.K p.1 p.2 P) fun p hp => h2 p.1 p.2 hp)) fun D σ H ⟨G, A, fr, w, sl, g⟩ => ?_
  refine ⟨G, A, fr, w, sl, ⟨fun ds' cs' G' A' σ' H' r e a l w' sl' => ?_, g.rt, g.bk, g.ct⟩⟩
  exact ⟨(ds', cs'), r, G', A', fr, w', sl', g.step e a l⟩
/-- a statement that goes on to the next in one known state -/
theorem sd_to {M : Slots → Cells → Prop} (h1 : ∀ P' : DE, P'.nx = M → S1 X ds cs st P') (h2 : ∀ ds' cs', M ds' cs' → SD X ds' cs' rest P) : SD X ds cs (st :: rest) P := sd_cons (h1 _ rfl) h2

/-! ### assignment -/
theorem sd_asgD (i : Nat) (he : PD X ds cs e R) (k : ∀ cs' sv, R cs' sv → SD X (ds.set i (some sv)) cs' rest P) (hN : X.N.Nodup) (hi : X.N[i]? = some x := by rfl) (hx : Loc X.env.scope x := by first | exact Or.inl rfl | exact Or.inr rfl) (hs : swapsWith e (some (.Name x p1)) pos.line X.env = pure false := by rfl) (hf : X.fn x = true ∨ X.env.scope.names.lookup x = some .local := by first | exact .inl rfl | exact .inr rfl) :
    SD X ds cs (.Assign [.Name x p1] e pos :: rest) P := by
  refine sd_cons (M := fun ds' cs' => ∃ sv, R cs' sv ∧ ds' = ds.set i (some sv)) (ps_imp (ps_set hN hi hx he hs hf) fun D σ H ⟨G, A, fr, w, sl, g⟩ => ?_) fun ds' cs' ⟨sv, hr, e⟩ => by rw [e]; exact k cs' sv hr
  exact ⟨G, A, fr, w, sl, fun v sv cs1 G1 A1 H1 r1 e1 a1 l1 w1 ok1 => g.nx _ _ _ _ _ _ ⟨sv, r1, rfl⟩ e1 a1 l1 w1 ((sl.mono e1 a1 l1).set i ok1)⟩
theorem sd_asg (i : Nat) (he : PV X ds cs e sv) (k : SD X (ds.set i (some sv)) cs rest P) (hN : X.N.Nodup) (hi : X.N[i]? = some x := by rfl) (hx : Loc X.env.scope x := by first | exact Or.inl rfl | exact Or.inr rfl) (hs : swapsWith e (some (.Name x p1)) pos.line X.env = pure false := by rfl) (hf : X.fn x = true ∨ X.env.scope.names.lookup x = some .local := by first | exact .inl rfl | exact .inr rfl) :
    SD X ds cs (.Assign [.Name x p1] e pos :: rest) P := sd_asgD i he (fun cs' sv' ⟨e1, e2⟩ => by rw [e1, e2]; exact k) hN hi hx hs hf
/-- name = [..], the name a local that no block captures -/
theorem sd_asgLcD {elt tg iter : Expr} {ifs : List Expr} {scope : Scope} {own : List (Str × Nat)} {xs : List PyData} {g : TG} {js : List Nat} {f : Slots → PyData → Option Slots} {I : Nat → List PyData → Cells → Prop} {T : Nat → List PyData → Cells → Bool → Prop} {lp : Pos} (i : Nat) (hi : PVI X ds cs tg iter xs) (ok : BlkOk X.N X.env.scope scope own) (hg : Blk X scope fun X' => PG X' tg g) (gd : GD X.K g js f) (hj : ∀ j ∈ js, j ∈ own.map (·.2))
    (hl : LcOk X elt tg ifs scope (own.map (·.2)) ds xs f I T) (h0 : I 0 [] cs) (hz : xs.length ≤ 1000000) (k : ∀ acc cs', I xs.length acc cs' → SD X (ds.set i (some (.d (.list acc)))) cs' rest P) (hN : X.N.Nodup) (hy : X.N[i]? = some x := by rfl) (hyl : X.env.scope.names.lookup x = some .local := by rfl)
    (hsw : swapsWith (.ListComp elt [⟨tg, iter, ifs, 0⟩] scope lp) (some (.Name x p1)) pos.line X.env = pure true := by exact sw_true rfl rfl rfl (by decide +kernel)) (hc : X.calm = true := by rfl)
    (hs : ∀ x, foldedSetIterable iter X.env x = pure x := by intro _; rfl) : SD X ds cs (.Assign [.Name x p1] (.ListComp elt [⟨tg, iter, ifs, 0⟩] scope lp) pos :: rest) P := by
  refine sd_cons (M := fun ds' cs' => ∃ acc, I xs.length acc cs' ∧ ds' = ds.set i (some (.d (.list acc)))) (ps_imp (ps_setLc hc hN hy hyl hsw hi ok hg hl.pts hl.pe hs) fun D σ H ⟨G, A, fr, w, sl, g⟩ => ?_) fun ds' cs' ⟨acc, hr, e⟩ => by rw [e]; exact k acc cs' hr
  refine lc_red (R := fun cs' sv => ∃ acc, I xs.length acc cs' ∧ sv = .d (.list acc)) gd hj hl h0 (fun acc cs' h => ⟨acc, h, rfl⟩) hz ⟨G, A, fr, w, sl, fun v sv cs1 G1 A1 H1 ⟨acc, r1, r2⟩ e1 a1 l1 w1 ok1 => ?_⟩
  subst r2
  exact g.nx _ _ _ _ _ _ ⟨acc, r1, rfl⟩ e1 a1 l1 w1 ((sl.mono e1 a1 l1).set i ok1)
theorem sd_asgLc {elt tg iter : Expr} {scope : Scope} {own : List (Str × Nat)} {xs : List PyData} {g : TG} {js : List Nat} {f : Slots → PyData → Option Slots} {h : PyData → PyData} {lp : Pos} (i : Nat) (hi : PVI X ds cs tg iter xs) (ok : BlkOk X.N X.env.scope scope own) (hg : Blk X scope fun X' => PG X' tg g) (gd : GD X.K g js f) (hj : ∀ j ∈ js, j ∈ own.map (·.2))
    (e : ∀ x ∈ xs, ∃ ds', f (wipeD ds (own.map (·.2))) x = some ds' ∧ Blk X scope fun X' => PV X' ds' cs elt (.d (h x))) (hz : xs.length ≤ 1000000) (k : SD X (ds.set i (some (.d (.list (xs.map h))))) cs rest P) (hN : X.N.Nodup) (hy : X.N[i]? = some x := by rfl) (hyl : X.env.scope.names.lookup x = some .local := by rfl)
    (hsw : swapsWith (.ListComp elt [⟨tg, iter, [], 0⟩] scope lp) (some (.Name x p1)) pos.line X.env = pure true := by exact sw_true rfl rfl rfl (by decide +kernel)) (hc : X.calm = true := by rfl)
    (hs : ∀ x, foldedSetIterable iter X.env x = pure x := by intro _; rfl) : SD X ds cs (.Assign [.Name x p1] (.ListComp elt [⟨tg, iter, [], 0⟩] scope lp) pos :: rest) P := by
  have hE : LcEach X elt [] scope (own.map (·.2)) ds cs xs f (fun _ => true) h := fun x hx => by
    obtain ⟨ds', h1, h2⟩ := e x hx
    exact ⟨ds', h1, fun s H C cl fp => pvts_nil ⟨rfl, rfl⟩, fun _ => h2⟩
  refine sd_asgLcD (ifs := []) i hi ok hg gd hj hE.ok ⟨rfl, by simp⟩ hz (fun acc cs' ⟨h1, h2⟩ => ?_) hN hy hyl hsw hc hs
  rw [h1, h2, List.take_length, List.filter_eq_self.mpr (fun _ _ => rfl)]
  exact k
/-- a, b = e1, e2 -/
theorem sd_par {Ra : Cells → List SV → Prop} (i j : Nat) {y : Str} {px py pt : Pos} {kt k2 : Nat} {pt2 : Pos} (ha : PDA X ds cs [a, b] Ra) (k : ∀ cs' xs, Ra cs' xs → ∃ u w, xs = [u, w] ∧ SD X ((ds.set i (some u)).set j (some w)) cs' rest P)
    (hw : swappedStores [.Tuple [.Name x px, .Name y py] kt pt] (.Tuple [a, b] k2 pt2) X.env = pure (some [x, y])) (hN : X.N.Nodup) (hij : i ≠ j := by decide) (hi : X.N[i]? = some x := by rfl) (hj : X.N[j]? = some y := by rfl)
    (hx : X.env.scope.names.lookup x = some .local := by rfl) (hy : X.env.scope.names.lookup y = some .local := by rfl) (hc : X.calm = true := by rfl)
    (hs : swapsWithSole [.Tuple [.Name x px, .Name y py] kt pt] (.Tuple [a, b] k2 pt2) pos.line X.env = pure false := by rfl) : SD X ds cs (.Assign [.Tuple [.Name x px, .Name y py] kt pt] (.Tuple [a, b] k2 pt2) pos :: rest) P := by
  refine sd_cons (M := fun ds' cs' => ∃ xs u w, Ra cs' xs ∧ xs = [u, w] ∧ ds' = (ds.set i (some u)).set j (some w)) (ps_imp (ps_par hc hN hi hj hij hx hy ha hw hs) fun D σ H ⟨G, A, fr, w, sl, g⟩ => ?_) fun ds' cs' ⟨xs, u, w, hr, e1, e2⟩ => ?_
  · refine ⟨G, A, fr, w, sl, fun vs xs cs1 G1 A1 H1 r1 e1 a1 l1 w1 ok1 => ?_⟩
    obtain ⟨u, z, rfl, _⟩ := k cs1 xs r1
    cases ok1 with
    | cons k1 k2 =>
      cases k2 with
      | cons k3 k4 =>
        cases k4
        exact ⟨_, _, rfl, g.nx _ _ _ _ _ _ ⟨_, u, z, r1, rfl, rfl⟩ e1 a1 l1 w1 (((sl.mono e1 a1 l1).set i k1).set j k3)⟩
  · obtain ⟨u', w', e3, h⟩ := k cs' xs hr
    rw [e1] at e3
    cases e3
    rw [e2]; exact h
/-- the same with names that a block captures: through a tuple -/
theorem sd_tup2 {Ra : Cells → List SV → Prop} (i j : Nat) {y : Str} {px py pt : Pos} {kt k2 : Nat} {pt2 : Pos} (ha : PDA X ds cs [a, b] Ra) (k : ∀ cs' xs, Ra cs' xs → ∃ u w, xs = [u, w] ∧ SD X ((ds.set i (some u)).set j (some w)) cs' rest P)
    (hw : swappedStores [.Tuple [.Name x px, .Name y py] kt pt] (.Tuple [a, b] k2 pt2) X.env = pure none) (hN : X.N.Nodup) (hi : X.N[i]? = some x := by rfl) (hj : X.N[j]? = some y := by rfl)
    (hx : Loc X.env.scope x := by first | exact Or.inl rfl | exact Or.inr rfl) (hfx : X.fn x = true ∨ X.env.scope.names.lookup x = some .local := by first | exact .inl rfl | exact .inr rfl) (hy : Loc X.env.scope y := by first | exact Or.inl rfl | exact Or.inr rfl) (hfy : X.fn y = true ∨ X.env.scope.names.lookup y = some .local := by first | exact .inl rfl | exact .inr rfl) (hc : X.calm = true := by rfl)
    (hs : swapsWithSole [.Tuple [.Name x px, .Name y py] kt pt] (.Tuple [a, b] k2 pt2) pos.line X.env = pure false := by rfl)
    (h1 : (assignEach [.Tuple [.Name x px, .Name y py] kt pt] X.env).map (·.2) = [assign (.Tuple [.Name x px, .Name y py] kt pt) X.env] := by rfl) : SD X ds cs (.Assign [.Tuple [.Name x px, .Name y py] kt pt] (.Tuple [a, b] k2 pt2) pos :: rest) P := by
  refine sd_cons (M := fun ds' cs' => ∃ xs u w, Ra cs' xs ∧ xs = [u, w] ∧ ds' = (ds.set i (some u)).set j (some w)) (ps_imp (ps_asg (pe_tup ha) (pg_tup (n := 2) (by first | exact hc) (pgs_cons (pg_name (i := i) hN hi hx hfx) (pgs_cons (pg_name (i := j) hN hj hy hfy) pgs_nil))) hs hw h1) fun D σ H ⟨G, A, fr, w, sl, g⟩ => ?_) fun ds' cs' ⟨xs, u, w, hr, e1, e2⟩ => ?_
  · refine ⟨G, A, fr, w, sl, fun vs xs cs1 G1 A1 H1 r1 e1 a1 l1 w1 ok1 => ?_⟩
    obtain ⟨u, z, rfl, _⟩ := k cs1 xs r1
    cases ok1 with
    | cons k1 k2 =>
      cases k2 with
      | cons k3 k4 =>
        cases k4
        refine ⟨by show 2 ≤ sizeLine; decide, fun q hq => ⟨q, _, rfl, SqT.of upd_same, rfl, _, _, rfl, _, _, rfl, rfl, ?_⟩⟩
        exact g.nx _ _ _ _ _ _ ⟨_, u, z, r1, rfl, rfl⟩ e1 a1 l1 (w1.grow (Ex.new hq)) (((sl.mono e1 a1 l1).set i k1).set j k3)
  · obtain ⟨u', w', e3, h⟩ := k cs' xs hr
    rw [e1] at e3
    cases e3
    rw [e2]; exact h
/-- a, b = e, a tuple of data -/
theorem sd_unp {d1 d2 : PyData} (i j : Nat) {y : Str} {px py pt : Pos} {kt : Nat} (he : PV X ds cs e (.d (.tuple [d1, d2]))) (k : SD X ((ds.set i (some (.d d1))).set j (some (.d d2))) cs rest P)
    (hN : X.N.Nodup) (hw : swappedStores [.Tuple [.Name x px, .Name y py] kt pt] e X.env = pure none := by rfl) (hi : X.N[i]? = some x := by rfl) (hj : X.N[j]? = some y := by rfl)
    (hx : Loc X.env.scope x := by first | exact Or.inl rfl | exact Or.inr rfl) (hfx : X.fn x = true ∨ X.env.scope.names.lookup x = some .local := by first | exact .inl rfl | exact .inr rfl) (hy : Loc X.env.scope y := by first | exact Or.inl rfl | exact Or.inr rfl) (hfy : X.fn y = true ∨ X.env.scope.names.lookup y = some .local := by first | exact .inl rfl | exact .inr rfl) (hc : X.calm = true := by rfl)
    (hs : swapsWithSole [.Tuple [.Name x px, .Name y py] kt pt] e pos.line X.env = pure false := by rfl)
    (h1 : (assignEach [.Tuple [.Name x px, .Name y py] kt pt] X.env).map (·.2) = [assign (.Tuple [.Name x px, .Name y py] kt pt) X.env] := by rfl) : SD X ds cs (.Assign [.Tuple [.Name x px, .Name y py] kt pt] e pos :: rest) P := by
  refine sd_cons (M := fun ds' cs' => cs' = cs ∧ ds' = (ds.set i (some (.d d1))).set j (some (.d d2))) (ps_imp (ps_asg he (pg_tup (n := 2) hc (pgs_cons (pg_name (i := i) hN hi hx hfx) (pgs_cons (pg_name (i := j) hN hj hy hfy) pgs_nil))) hs hw h1) fun D σ H ⟨G, A, fr, w, sl, g⟩ => ?_) fun ds' cs' ⟨e1, e2⟩ => by rw [e1, e2]; exact k
  refine ⟨G, A, fr, w, sl, fun v xs cs1 G1 A1 H1 ⟨r1, r2⟩ e1 a1 l1 w1 ok1 => ?_⟩
  subst r1 r2
  obtain ⟨a0, vs, rfl, hg, hall⟩ := dt_tup ok1
  cases hall with
  | cons k1 k2 =>
    cases k2 with
    | cons k3 k4 =>
      cases k4
      exact ⟨a0, _, rfl, SqT.of (w1.gh _ _ hg), rfl, _, _, rfl, _, _, rfl, rfl, g.nx _ _ _ _ _ _ ⟨rfl, rfl⟩ e1 a1 l1 w1 (((sl.mono e1 a1 l1).set i (sv := .d d1) k1).set j (sv := .d d2) k3)⟩
/-- name op= e, ints -/
theorem sd_aug {f : Int → Int → Int} {op : Operator} {u v : Int} (i : Nat) (hx0 : ds[i]? = some (some (.d (.int u)))) (he : PV X ds cs e (.d (.int v))) (ho : PIp X op (ipI f)) (k : SD X (ds.set i (some (.d (.int (f u v))))) cs rest P) (hN : X.N.Nodup) (hi : X.N[i]? = some x := by rfl) (hx : Loc X.env.scope x := by first | exact Or.inl rfl | exact Or.inr rfl) (hf : X.fn x = true ∨ X.env.scope.names.lookup x = some .local := by first | exact .inl rfl | exact .inr rfl) :
    SD X ds cs (.AugAssign (.Name x p1) op e pos :: rest) P := by
  refine sd_cons (M := fun ds' cs' => cs' = cs ∧ ds' = ds.set i (some (.d (.int (f u v))))) (ps_imp (ps_aug hN hi hx he ho hf) fun D σ H ⟨G, A, fr, w, sl, g⟩ => ?_) fun ds' cs' ⟨e1, e2⟩ => by rw [e1, e2]; exact k
  obtain ⟨y, h1, h2⟩ := sl.get i _ hx0
  cases h2
  refine ⟨_, h1, G, A, fr, w, sl, fun z sv cs1 G1 A1 H1 ⟨r1, r2⟩ e1 a1 l1 w1 ok1 => ?_⟩
  subst r1 r2
  cases ok1
  exact ⟨u, v, rfl, rfl, g.nx _ _ _ _ _ _ ⟨rfl, rfl⟩ e1 a1 l1 w1 ((sl.mono e1 a1 l1).set i (sv := .d (.int (f u v))) (.int _))⟩

/-! ### expressions, return, if -/
theorem sd_expr (he : PD X ds cs e R) (k : ∀ cs' sv, R cs' sv → SD X ds cs' rest P) (hs : swapsWith e none pos.line X.env = pure false := by rfl) : SD X ds cs (.Expr e pos :: rest) P := by
  refine sd_cons (M := fun ds' cs' => ∃ sv, R cs' sv ∧ ds' = ds) (ps_imp (ps_expr he hs) fun D σ H ⟨G, A, fr, w, sl, g⟩ => ?_) fun ds' cs' ⟨sv, hr, e⟩ => by rw [e]; exact k cs' sv hr
  exact ⟨G, A, fr, w, sl, fun v sv cs1 G1 A1 H1 r1 e1 a1 l1 w1 ok1 => g.nx _ _ _ _ _ _ ⟨sv, r1, rfl⟩ e1 a1 l1 w1 (sl.mono e1 a1 l1)⟩
theorem sd_ret (he : PD X ds cs e (fun cs' sv => P.rt sv cs')) : SD X ds cs (.Return (some e) pos :: rest) P := by
  refine sd_cons (M := fun _ _ => False) (ps_imp (ps_ret he) fun D σ H ⟨G, A, fr, w, sl, g⟩ => ?_) fun _ _ z => z.elim
  exact ⟨G, A, fr, w, sl, fun v sv cs1 G1 A1 H1 r1 e1 a1 l1 w1 ok1 => g.rt _ _ _ _ _ _ r1 e1 a1 l1 w1 ok1⟩
theorem sd_break (r : P.bk ds cs) : SD X ds cs (.Break pos :: rest) P :=
  sd_cons (M := fun _ _ => False) (ps_imp ps_break fun D σ H ⟨G, A, fr, w, sl, g⟩ => g.bk.here r w sl) fun _ _ z => z.elim
theorem sd_continue (r : P.ct ds cs) : SD X ds cs (.Continue pos :: rest) P :=
  sd_cons (M := fun _ _ => False) (ps_imp ps_continue fun D σ H ⟨G, A, fr, w, sl, g⟩ => g.ct.here r w sl) fun _ _ z => z.elim
theorem sd_ifD {sa sb : List Stmt} {Rc : Cells → Bool → Prop} {M : Slots → Cells → Prop} (hc : PDT X ds cs c Rc) (ha : ∀ cs1, Rc cs1 true → SD X ds cs1 sa { P with nx := M }) (hb : ∀ cs1, Rc cs1 false → SD X ds cs1 sb { P with nx := M }) (k : ∀ ds' cs', M ds' cs' → SD X ds' cs' rest P) : SD X ds cs (.If c sa sb pos :: rest) P := by
  refine sd_cons (M := M) (ps_imp (ps_if hc (pss_any (P := fun cs1 => Rc cs1 true) ha) (pss_any (P := fun cs1 => Rc cs1 false) hb)) fun D σ H ⟨G, A, fr, w, sl, g⟩ => ?_) k
  refine ⟨G, A, fr, w, sl, fun p cs1 G1 A1 H1 r1 e1 a1 l1 w1 => ?_⟩
  cases p with
  | true => exact iteT ⟨cs1, r1, G1, A1, fr, w1, sl.mono e1 a1 l1, g.step e1 a1 l1⟩
  | false => exact iteF ⟨cs1, r1, G1, A1, fr, w1, sl.mono e1 a1 l1, g.step e1 a1 l1⟩
theorem sd_if {sa sb : List Stmt} {p : Bool} {M : Slots → Cells → Prop} (hc : PVT X ds cs c p) (ha : p = true → SD X ds cs sa { P with nx := M }) (hb : p = false → SD X ds cs sb { P with nx := M }) (k : ∀ ds' cs', M ds' cs' → SD X ds' cs' rest P) : SD X ds cs (.If c sa sb pos :: rest) P :=
  sd_ifD hc (fun cs1 ⟨e1, e2⟩ => by rw [e1]; exact ha e2.symm) (fun cs1 ⟨e1, e2⟩ => by rw [e1]; exact hb e2.symm) k
/-- if c: .. that leaves; the rest behind it where c is false -/
theorem sd_ifR {sa : List Stmt} {p : Bool} (hc : PVT X ds cs c p) (ha : p = true → SD X ds cs sa { P with nx := fun _ _ => False }) (k : p = false → SD X ds cs rest P) : SD X ds cs (.If c sa [] pos :: rest) P :=
  sd_if (M := fun ds' cs' => p = false ∧ ds' = ds ∧ cs' = cs) hc (fun h => (ha h).imp (fun _ _ z => z.elim) (fun _ _ z => z) (fun _ _ z => z) (fun _ _ z => z)) (fun h => sd_nil ⟨h, rfl, rfl⟩) fun ds' cs' ⟨h, e1, e2⟩ => by rw [e1, e2]; exact k h
/-- a test that is never true: what stands in its branch doesn't matter -/
theorem sd_ifNo {sa : List Stmt} (hc : PVT X ds cs c false) (k : SD X ds cs rest P) : SD X ds cs (.If c sa [] pos :: rest) P :=
  sd_ifR hc (fun h => nomatch h) fun _ => k

/-! ### stores into lists of one's own -/
theorem sd_setO {m : Nat} {d : PyData} {xs : List PyData} {j : Int} {jj : Nat} {sp : Pos} (he : PV X ds cs e (.d d)) (ho : PV X ds cs o (.own m)) (hi : PV X ds cs b (.d (.int j))) (hm : cs[m]? = some (some (.lst xs))) (hj : ixN xs.length j = some jj) (k : SD X ds (cs.set m (some (.lst (xs.set jj d)))) rest P)
    (hs : swapsWithSole [.Subscript o b sp] e pos.line X.env = pure false := by rfl) (hw : swappedStores [.Subscript o b sp] e X.env = pure none := by rfl)
    (h1 : (assignEach [.Subscript o b sp] X.env).map (·.2) = [assign (.Subscript o b sp) X.env] := by rfl) (hsub : SubAsg X o b sp := by intro _; rfl) : SD X ds cs (.Assign [.Subscript o b sp] e pos :: rest) P := by
  refine sd_cons (M := fun ds' cs' => ds' = ds ∧ cs' = cs.set m (some (.lst (xs.set jj d)))) (ps_imp (ps_asg he (pg_sub ho hi set_list hsub) hs hw h1) fun D σ H ⟨G, A, fr, w, sl, g⟩ => ?_) fun ds' cs' ⟨e1, e2⟩ => by rw [e1, e2]; exact k
  refine ⟨G, A, fr, w, sl, fun v sv cs1 G1 A1 H1 ⟨r1, r2⟩ e1 a1 l1 w1 ok1 => ?_⟩
  subst r1 r2
  refine ⟨G1, A1, fr, w1, sl.mono e1 a1 l1, fun v2 sv2 cs2 G2 A2 H2 ⟨r3, r4⟩ e2 a2 l2 w2 ok2 => ?_⟩
  subst r3 r4
  refine ⟨G2, A2, fr, w2, (sl.mono e1 a1 l1).mono e2 a2 l2, fun v3 sv3 cs3 G3 A3 H3 ⟨r5, r6⟩ e3 a3 l3 w3 ok3 => ?_⟩
  subst r5 r6
  cases ok3
  obtain ⟨_, a0, l0, ea, rfl⟩ := ok2.mono e3 a3 l3
  obtain ⟨b0, vs, eb, hH, hall⟩ := w3.cell m _ hm
  rw [ea] at eb; cases eb
  refine ⟨a0, vs, j, jj, rfl, rfl, hH, by rw [hall.length]; exact hj, ?_⟩
  have w4 := w3.write (c' := .lst (xs.set jj d)) hm (H' := upd H3 a0 (.lst (vs.set jj v))) (fun a o ha ho => by rw [upd_ne (fun e => ha (by rw [ea, e]; simp))]; exact ho) ⟨a0, _, ea, upd_same, hall.set (ok1.mono (e2.trans e3) (a2.trans a3 l2) (Nat.le_trans l2 l3)) jj⟩
  exact g.nx _ _ G3 A3 _ _ ⟨rfl, rfl⟩ (e1.trans (e2.trans e3)) ((a1.trans a2 l1).trans a3 (Nat.le_trans l1 l2)) (by rw [List.length_set]; exact Nat.le_trans l1 (Nat.le_trans l2 l3)) w4 (by rw [List.length_set]; exact sl.mono (e1.trans (e2.trans e3)) ((a1.trans a2 l1).trans a3 (Nat.le_trans l1 l2)) (Nat.le_trans l1 (Nat.le_trans l2 l3)))

/-! lists of lists of one's own -/
theorem W.mat {G : Hp} {A : Nat → List Addr} {cs : Cells} {fr H : Hp} {m : Nat} {rs : List (List PyData)} (w : W G A cs fr H) (hm : cs[m]? = some (some (.mat rs))) : ∃ a bs, A m = a :: bs ∧ H a = some (.lst (bs.map V.ref)) ∧ Rows G H bs rs ∧ bs.Nodup ∧ a ∉ bs := by
  obtain ⟨a, bs, ea, hH, hr⟩ := w.cell m _ hm
  have hn := w.nd m _ hm
  rw [ea, List.nodup_cons] at hn
  exact ⟨a, bs, ea, hH, hr, hn.2, hn.1⟩
theorem W.matSet {G : Hp} {A : Nat → List Addr} {cs : Cells} {fr H : Hp} {m i : Nat} {rs : List (List PyData)} {r' : List PyData} {a b : Addr} {bs : List Addr} {vs : List V} (w : W G A cs fr H) (hm : cs[m]? = some (some (.mat rs))) (ea : A m = a :: bs) (hb : bs[i]? = some b) (hd : DtAll G vs r') :
    W G A (cs.set m (some (.mat (rs.set i r')))) fr (upd H b (.lst vs)) := by
  obtain ⟨a', bs', ea', hH, hr, hn, hna⟩ := w.mat hm
  rw [ea] at ea'; cases ea'
  have hmem : b ∈ bs := List.mem_of_getElem? hb
  refine w.write (c' := .mat (rs.set i r')) hm (fun x o hx ho => ?_) ⟨a, bs, ea, ?_, hr.set hd hn hb⟩
  · rw [upd_ne (fun e => hx (by rw [ea, e]; exact List.mem_cons_of_mem _ hmem))]; exact ho
  · rw [upd_ne (fun e => hna (by rw [e]; exact hmem))]; exact hH
theorem matRow {G H : Hp} {bs : List Addr} {rs : List (List PyData)} {i : Int} {r : List PyData} (hr : Rows G H bs rs) (h : atI rs i = some r) : ∃ k b vs, rs[k]? = some r ∧ bs[k]? = some b ∧ atI (bs.map V.ref) i = some (.ref b) ∧ H b = some (.lst vs) ∧ DtAll G vs r ∧ ixN rs.length i = some k := by
  unfold atI at h ⊢
  rw [List.length_map, hr.length]
  cases q : ixN rs.length i with
  | none => rw [q] at h; cases h
  | some k =>
    rw [q] at h
    obtain ⟨b, vs, h1, h2, h3⟩ := hr.get h
    refine ⟨k, b, vs, h, h1, ?_, h2, h3, rfl⟩
    show (bs.map V.ref)[k]? = _
    rw [List.getElem?_map, h1]; rfl
/-- o[i][j] = e -/
theorem sd_setM {m : Nat} {d : PyData} {rs : List (List PyData)} {r : List PyData} {i j : Int} {ii jj : Nat} {b2 : Expr} {sp sp2 : Pos} (he : PV X ds cs e (.d d)) (ho : PV X ds cs o (.own m)) (hi : PV X ds cs b (.d (.int i))) (hi2 : PV X ds cs b2 (.d (.int j))) (hm : cs[m]? = some (some (.mat rs))) (h1 : atI rs i = some r) (h1' : ixN rs.length i = some ii) (hj : ixN r.length j = some jj)
    (k : SD X ds (cs.set m (some (.mat (rs.set ii (r.set jj d))))) rest P) (hix : PlainIx b := by intro _ _; rfl)
    (hs : swapsWithSole [.Subscript (.Subscript o b sp) b2 sp2] e pos.line X.env = pure false := by rfl) (hw : swappedStores [.Subscript (.Subscript o b sp) b2 sp2] e X.env = pure none := by rfl)
    (has : (assignEach [.Subscript (.Subscript o b sp) b2 sp2] X.env).map (·.2) = [assign (.Subscript (.Subscript o b sp) b2 sp2) X.env] := by rfl) (hsub : SubAsg X (.Subscript o b sp) b2 sp2 := by intro _; rfl) : SD X ds cs (.Assign [.Subscript (.Subscript o b sp) b2 sp2] e pos :: rest) P := by
  refine sd_cons (M := fun ds' cs' => ds' = ds ∧ cs' = cs.set m (some (.mat (rs.set ii (r.set jj d))))) (ps_imp (ps_asg he (pg_sub (pe_ix ix_seq ho hi hix) hi2 set_list hsub) hs hw has) fun D σ H ⟨G, A, fr, w, sl, g⟩ => ?_) fun ds' cs' ⟨e1, e2⟩ => by rw [e1, e2]; exact k
  refine ⟨G, A, fr, w, sl, fun v sv cs1 G1 A1 H1 ⟨r1, r2⟩ e1 a1 l1 w1 ok1 => ?_⟩
  subst r1 r2
  refine ⟨G1, A1, fr, w1, sl.mono e1 a1 l1, fun v2 sv2 cs2 G2 A2 H2 ⟨r3, r4⟩ e2 a2 l2 w2 ok2 => ?_⟩
  subst r3 r4
  refine ⟨G2, A2, fr, w2, (sl.mono e1 a1 l1).mono e2 a2 l2, fun v3 sv3 cs3 G3 A3 H3 ⟨r5, r6⟩ e3 a3 l3 w3 ok3 => ?_⟩
  subst r5 r6
  cases ok3
  obtain ⟨_, a0, l0, ea, rfl⟩ := ok2.mono e3 a3 l3
  obtain ⟨a', bs, ea', hH, hr, hn, hna⟩ := w3.mat hm
  rw [ea] at ea'; cases ea'
  obtain ⟨kk, b0, vs, q1, q2, q3, q4, q5, q6⟩ := matRow hr h1
  refine .inl ⟨a0, _, i, .ref b0, rfl, rfl, SqL.of hH, q3, ?_⟩
  refine ⟨G3, A3, fr, w3, ((sl.mono e1 a1 l1).mono e2 a2 l2).mono e3 a3 l3, fun v4 sv4 cs4 G4 A4 H4 ⟨r7, r8⟩ e4 a4 l4 w4 ok4 => ?_⟩
  subst r7 r8
  cases ok4
  have ea4 : A4 m = a0 :: l0 := (a4 m (List.getElem?_eq_some_iff.mp hm).1).trans ea
  obtain ⟨a', bs, ea', hH4, hr4, hn4, hna4⟩ := w4.mat hm
  rw [ea4] at ea'; cases ea'
  obtain ⟨kk4, b4, vs4, t1, t2, t3, t4, t5, t6⟩ := matRow hr4 h1
  rw [q3] at t3
  cases t3
  rw [h1'] at t6; cases t6
  refine ⟨b0, vs4, j, jj, rfl, rfl, t4, by rw [t5.length]; exact hj, ?_⟩
  have w5 := w4.matSet (r' := r.set jj d) (vs := vs4.set jj v) hm ea4 t2 (t5.set (ok1.mono (e2.trans (e3.trans e4)) ((a2.trans a3 l2).trans a4 (Nat.le_trans l2 l3)) (Nat.le_trans l2 (Nat.le_trans l3 l4))) jj)
  exact g.nx _ _ G4 A4 _ _ ⟨rfl, rfl⟩ (e1.trans (e2.trans (e3.trans e4))) (((a1.trans a2 l1).trans a3 (Nat.le_trans l1 l2)).trans a4 (Nat.le_trans l1 (Nat.le_trans l2 l3))) (by rw [List.length_set]; exact Nat.le_trans l1 (Nat.le_trans l2 (Nat.le_trans l3 l4))) w5 (by rw [List.length_set]; exact sl.mono (e1.trans (e2.trans (e3.trans e4))) (((a1.trans a2 l1).trans a3 (Nat.le_trans l1 l2)).trans a4 (Nat.le_trans l1 (Nat.le_trans l2 l3))) (Nat.le_trans l1 (Nat.le_trans l2 (Nat.le_trans l3 l4))))
theorem pget_list : PGet X (rIxL X.K) := by
  intro pins s σ H o i ov iv Q I ro ri h
  obtain ⟨p, xs, k, z, rfl, rfl, hq, he, q⟩ := h
  cases ro
  obtain ⟨t, rfl⟩ := ri
  obtain ⟨its, r, pl, hz⟩ := I.list hq
  obtain ⟨j, h1, h2, h3, h4, h5⟩ := atI_get he
  obtain ⟨w, ew, rw'⟩ := r.get h2
  have hl := r.length
  have hn := line63
  have fin : EP X pins σ Q w s := ⟨z, H, I, rw', q⟩
  by_cases h0 : 0 ≤ k
  · have hj : k.toNat = j := by
      rw [seqIndex_of h0 h5] at h1
      exact Option.some.inj h1
    exact wpAny_getItem_list pl.isList h0 (by omega) (by rw [hj]; simpa using ew) fin
  · have hj : (k + (its.toArray.size : Int)).toNat = j := by
      rw [seqIndex_neg (by omega) h4] at h1
      rw [List.size_toArray, ← hl]
      exact Option.some.inj h1
    exact wpAny_getItem_list_neg pl.isList (by omega) (by rw [List.size_toArray] <;> omega) (by omega) (by rw [hj]; simpa using ew) fin
/-- o[i][j] op= e, ints -/
theorem sd_augM {f : Int → Int → Int} {op : Operator} {m : Nat} {u v : Int} {rs : List (List PyData)} {r : List PyData} {i j : Int} {ii jj : Nat} {b2 : Expr} {sp sp2 : Pos} (ho : PV X ds cs o (.own m)) (hi : PV X ds cs b (.d (.int i))) (hi2 : PV X ds cs b2 (.d (.int j))) (he : PV X ds cs e (.d (.int v))) (hop : PIp X op (ipI f)) (hm : cs[m]? = some (some (.mat rs))) (h1 : atI rs i = some r) (h1' : ixN rs.length i = some ii) (h2 : atI r j = some (.int u)) (hj : ixN r.length j = some jj)
    (k : SD X ds (cs.set m (some (.mat (rs.set ii (r.set jj (.int (f u v))))))) rest P) (hix : PlainIx b := by intro _ _; rfl)
    (ha : ∀ ov iv new, augStore b2 ov iv new = (do holding [new, ov, iv] (setItem ov iv new); release [new, ov, iv] []; pure .next) := by intros; rfl) : SD X ds cs (.AugAssign (.Subscript (.Subscript o b sp) b2 sp2) op e pos :: rest) P := by
  refine sd_cons (M := fun ds' cs' => ds' = ds ∧ cs' = cs.set m (some (.mat (rs.set ii (r.set jj (.int (f u v))))))) (ps_imp (ps_augS (pe_ix ix_seq ho hi hix) hi2 pget_list he hop set_list ha) fun D σ H ⟨G, A, fr, w, sl, g⟩ => ?_) fun ds' cs' ⟨e1, e2⟩ => by rw [e1, e2]; exact k
  refine ⟨G, A, fr, w, sl, fun v1 sv1 cs1 G1 A1 H1 ⟨r1, r2⟩ e1 a1 l1 w1 ok1 => ?_⟩
  subst r1 r2
  refine ⟨G1, A1, fr, w1, sl.mono e1 a1 l1, fun v2 sv2 cs2 G2 A2 H2 ⟨r3, r4⟩ e2 a2 l2 w2 ok2 => ?_⟩
  subst r3 r4
  cases ok2
  obtain ⟨_, a0, l0, ea, rfl⟩ := ok1.mono e2 a2 l2
  obtain ⟨a', bs, ea', hH, hr, hn, hna⟩ := w2.mat hm
  rw [ea] at ea'; cases ea'
  obtain ⟨kk, b0, vs, q1, q2, q3, q4, q5, q6⟩ := matRow hr h1
  rw [h1'] at q6; cases q6
  refine .inl ⟨a0, _, i, .ref b0, rfl, rfl, SqL.of hH, q3, ?_⟩
  refine ⟨G2, A2, fr, w2, (sl.mono e1 a1 l1).mono e2 a2 l2, fun v3 sv3 cs3 G3 A3 H3 ⟨r5, r6⟩ e3 a3 l3 w3 ok3 => ?_⟩
  subst r5 r6
  cases ok3
  have ea3 : A3 m = a0 :: l0 := (a3 m (List.getElem?_eq_some_iff.mp hm).1).trans ea
  obtain ⟨a', bs, ea', hH3, hr3, hn3, hna3⟩ := w3.mat hm
  rw [ea3] at ea'; cases ea'
  obtain ⟨kk3, b3, vs3, t1, t2, t3, t4, t5, t6⟩ := matRow hr3 h1
  rw [q3] at t3; cases t3
  rw [h1'] at t6; cases t6
  obtain ⟨y, hy, oky⟩ := atI_dt t5 h2
  cases oky
  refine ⟨b0, vs3, j, _, rfl, rfl, SqL.of t4, hy, ?_⟩
  refine ⟨G3, A3, fr, w3, ((sl.mono e1 a1 l1).mono e2 a2 l2).mono e3 a3 l3, fun v4 sv4 cs4 G4 A4 H4 ⟨r7, r8⟩ e4 a4 l4 w4 ok4 => ?_⟩
  subst r7 r8
  cases ok4
  have ea4 : A4 m = a0 :: l0 := (a4 m (List.getElem?_eq_some_iff.mp hm).1).trans ea3
  obtain ⟨a', bs, ea', hH4, hr4, hn4, hna4⟩ := w4.mat hm
  rw [ea4] at ea'; cases ea'
  obtain ⟨kk4, b4, vs4, s1, s2, s3, s4, s5, s6⟩ := matRow hr4 h1
  rw [q3] at s3; cases s3
  rw [h1'] at s6; cases s6
  refine ⟨u, v, rfl, rfl, b0, vs4, j, jj, rfl, rfl, s4, by rw [s5.length]; exact hj, ?_⟩
  have w5 := w4.matSet (r' := r.set jj (.int (f u v))) (vs := vs4.set jj (.int (f u v))) hm ea4 s2 (s5.set (.int _) jj)
  exact g.nx _ _ G4 A4 _ _ ⟨rfl, rfl⟩ (e1.trans (e2.trans (e3.trans e4))) (((a1.trans a2 l1).trans a3 (Nat.le_trans l1 l2)).trans a4 (Nat.le_trans l1 (Nat.le_trans l2 l3))) (by rw [List.length_set]; exact Nat.le_trans l1 (Nat.le_trans l2 (Nat.le_trans l3 l4))) w5 (by rw [List.length_set]; exact sl.mono (e1.trans (e2.trans (e3.trans e4))) (((a1.trans a2 l1).trans a3 (Nat.le_trans l1 l2)).trans a4 (Nat.le_trans l1 (Nat.le_trans l2 l3))) (Nat.le_trans l1 (Nat.le_trans l2 (Nat.le_trans l3 l4))))

/-! ### loops -/
/-- for target in iter: body -/
theorem sd_for {tg iter : Expr} {body : List Stmt} {xs : List PyData} {g : TG} {js : List Nat} {f : Slots → PyData → Option Slots} (I : Nat → Slots → Cells → Prop) (hi : PVI X ds cs tg iter xs) (hg : PG X tg g) (gd : GD X.K g js f) (h0 : I 0 ds cs)
    (turn : ∀ i x ds' cs', xs[i]? = some x → I i ds' cs' → ∃ ds2, f ds' x = some ds2 ∧ SD X ds2 cs' body { nx := I (i + 1), ct := I (i + 1), bk := fun ds' cs' => False, rt := P.rt })
    (k : ∀ ds' cs', I xs.length ds' cs' → SD X ds' cs' rest P) (hp : PassesOwn (model X.prog X.w) X.A X.env X.xe) (hc : X.calm = true := by rfl)
    (hs : ∀ x, foldedSetIterable iter X.env x = pure x := by intro _; rfl) : SD X ds cs (.For tg iter body [] pos :: rest) P := by
  have hbody : PSs X body (fun D σ H => ∃ p : Nat × Slots × Slots × Cells, (∃ x, xs[p.1]? = some x ∧ I p.1 p.2.1 p.2.2.2 ∧ f p.2.1 x = some p.2.2.1) ∧ tSD X.K p.2.2.1 p.2.2.2 { nx := I (p.1 + 1), ct := I (p.1 + 1), bk := fun ds' cs' => False, rt := P.rt } D σ H) :=
    pss_any (ι := Nat × Slots × Slots × Cells) (P := fun p => ∃ x, xs[p.1]? = some x ∧ I p.1 p.2.1 p.2.2.2 ∧ f p.2.1 x = some p.2.2.1) (t := fun p => tSD X.K p.2.2.1 p.2.2.2 { nx := I (p.1 + 1), ct := I (p.1 + 1), bk := fun ds' cs' => False, rt := P.rt }) fun p ⟨x, h1, h2, h3⟩ => by
      obtain ⟨ds2, q1, q2⟩ := turn p.1 x p.2.1 p.2.2.2 h1 h2
      rw [h3] at q1
      cases q1
      exact q2
  refine sd_cons (M := fun ds' cs' => I xs.length ds' cs') (ps_imp (ps_for hp hc hi hg hbody hs) fun D σ H ⟨G, A, fr, w, sl, go⟩ => ?_) k
  refine ⟨G, A, fr, w, sl, fun J H1 G1 A1 e1 a1 w1 it => ?_⟩
  let Pv : Nat → L2.St → Hp → Prop := fun i σ' H' => ∃ G' A' cs' ds', I i ds' cs' ∧ Ex G1 G' ∧ AEx cs.length A1 A' ∧ cs.length ≤ cs'.length ∧ W G' A' cs' fr H' ∧ Sl X.K G' A' cs'.length σ' ds'
  refine ⟨fun i m σ' H' => m = xs.length - i ∧ i ≤ xs.length ∧ Pv i σ' H', ⟨xs.length, by simp, Nat.zero_le _, G1, A1, cs, ds, h0, Ex.refl _, AEx.refl _ _, Nat.le_refl _, w1, sl.mono e1 a1 (Nat.le_refl _)⟩, ?_⟩
  rintro i m σ2 H2 ⟨rfl, hi2, G2, A2, cs2, ds2, hI, e2, a2, l2, w2, sl2⟩
  have eG : Ex G1 H2 := e2.trans w2.gh
  by_cases hlt : i < xs.length
  · refine .inr ⟨it.go i H2 eG hlt, Pv (i + 1), fun σ' H' p => ⟨xs.length - (i + 1), by omega, rfl, hlt, p⟩, fun x H3 hy => ?_⟩
    obtain ⟨y, hy2⟩ : ∃ y, xs[i]? = some y := ⟨xs[i], by simp [hlt]⟩
    obtain ⟨ds3, hf, _⟩ := turn i y ds2 cs2 hy2 hI
    obtain ⟨G3, e3, w3, okx⟩ : ∃ G3, Ex G2 G3 ∧ W G3 A2 cs2 fr H3 ∧ Dt G3 x y := by
      rcases it.yld i H2 x H3 eG hy y hy2 with ⟨h1, h2⟩ | ⟨T0, us, es, h1, h2, h3, h4, h5⟩
      · exact ⟨G2, Ex.refl _, by rw [h1]; exact w2, h2.mono e2⟩
      · obtain ⟨w', ex⟩ := w2.new (o := .tup us) h2
        refine ⟨upd G2 T0 (.tup us), ex, by rw [h3]; exact w', ?_⟩
        rw [h1, h5]
        exact .tup upd_same ((h4.mono e2).mono ex)
    refine gd x y _ H3 _ _ ds3 G3 A2 cs2.length (sl2.mono e3 (AEx.refl _ _) (Nat.le_refl _)) w3.gh okx hf fun σ4 sl4 _ => ?_
    refine ⟨(i, ds2, ds3, cs2), ⟨y, hy2, hI, hf⟩, G3, A2, fr, w3, sl4, ⟨?_, ?_, fun _ _ _ _ _ _ z => z.elim, ?_⟩⟩
    · exact fun ds5 cs5 G5 A5 σ5 H5 r5 e5 a5 l5 w5 sl5 => ⟨G5, A5, cs5, ds5, r5, e2.trans (e3.trans e5), a2.trans a5 l2, Nat.le_trans l2 l5, w5, sl5⟩
    · exact go.rt.step (e1.trans (e2.trans e3)) (a1.trans a2 (Nat.le_refl _)) l2
    · exact fun ds5 cs5 G5 A5 σ5 H5 r5 e5 a5 l5 w5 sl5 => ⟨G5, A5, cs5, ds5, r5, e2.trans (e3.trans e5), a2.trans a5 l2, Nat.le_trans l2 l5, w5, sl5⟩
  · have ei : i = xs.length := by omega
    subst ei
    exact .inl ⟨it.stop _ H2 eG (Nat.le_refl _), go.nx _ _ _ _ _ _ hI (e1.trans e2) (a1.trans a2 (Nat.le_refl _)) l2 w2 sl2⟩
/-- while c: body; I by a measure -/
theorem sd_while {body : List Stmt} (I : Nat → Slots → Cells → Prop) (m0 : Nat) (h0 : I m0 ds cs)
    (turn : ∀ m ds' cs', I m ds' cs' → ∃ p, PVT X ds' cs' c p ∧ (p = true → SD X ds' cs' body { nx := fun ds2 cs2 => ∃ m', m' < m ∧ I m' ds2 cs2, ct := fun ds2 cs2 => ∃ m', m' < m ∧ I m' ds2 cs2, bk := fun _ _ => False, rt := P.rt }) ∧ (p = false → SD X ds' cs' rest P))
    (hp : PassesOwn (model X.prog X.w) X.A X.env X.xe) : SD X ds cs (.While c body [] pos :: rest) P := by
  have hc : PT X c (fun σ H Q => ∃ p : Nat × Slots × Cells × Bool, (I p.1 p.2.1 p.2.2.1 ∧ PVT X p.2.1 p.2.2.1 c p.2.2.2) ∧ tDB X.K p.2.1 p.2.2.1 (Is p.2.2.1 p.2.2.2) σ H Q) :=
    pt_any (ι := Nat × Slots × Cells × Bool) (P := fun p => I p.1 p.2.1 p.2.2.1 ∧ PVT X p.2.1 p.2.2.1 c p.2.2.2) (t := fun p => tDB X.K p.2.1 p.2.2.1 (Is p.2.2.1 p.2.2.2)) fun p hp => hp.2
  have hb : PSs X body (fun D σ H => ∃ p : Nat × Slots × Cells, (I p.1 p.2.1 p.2.2 ∧ PVT X p.2.1 p.2.2 c true ∧ SD X p.2.1 p.2.2 body { nx := fun ds2 cs2 => ∃ m', m' < p.1 ∧ I m' ds2 cs2, ct := fun ds2 cs2 => ∃ m', m' < p.1 ∧ I m' ds2 cs2, bk := fun _ _ => False, rt := P.rt }) ∧ tSD X.K p.2.1 p.2.2 { nx := fun ds2 cs2 => ∃ m', m' < p.1 ∧ I m' ds2 cs2, ct := fun ds2 cs2 => ∃ m', m' < p.1 ∧ I m' ds2 cs2, bk := fun _ _ => False, rt := P.rt } D σ H) :=
    pss_any (ι := Nat × Slots × Cells) (P := fun p => I p.1 p.2.1 p.2.2 ∧ PVT X p.2.1 p.2.2 c true ∧ SD X p.2.1 p.2.2 body { nx := fun ds2 cs2 => ∃ m', m' < p.1 ∧ I m' ds2 cs2, ct := fun ds2 cs2 => ∃ m', m' < p.1 ∧ I m' ds2 cs2, bk := fun _ _ => False, rt := P.rt }) (t := fun p => tSD X.K p.2.1 p.2.2 { nx := fun ds2 cs2 => ∃ m', m' < p.1 ∧ I m' ds2 cs2, ct := fun ds2 cs2 => ∃ m', m' < p.1 ∧ I m' ds2 cs2, bk := fun _ _ => False, rt := P.rt }) fun p hp => hp.2.2
  refine sd_cons (M := fun ds' cs' => SD X ds' cs' rest P) (ps_imp (ps_while hp hc hb) fun D σ H ⟨G, A, fr, w, sl, go⟩ => ?_) fun ds' cs' h => h
  refine ⟨fun m σ' H' => ∃ G' A' cs' ds', I m ds' cs' ∧ Ex G G' ∧ AEx cs.length A A' ∧ cs.length ≤ cs'.length ∧ W G' A' cs' fr H' ∧ Sl X.K G' A' cs'.length σ' ds', ⟨m0, G, A, cs, ds, h0, Ex.refl _, AEx.refl _ _, Nat.le_refl _, w, sl⟩, ?_⟩
  rintro m σ2 H2 ⟨G2, A2, cs2, ds2, hI, e2, a2, l2, w2, sl2⟩
  obtain ⟨p, hpt, ht, hf⟩ := turn m ds2 cs2 hI
  refine ⟨(m, ds2, cs2, p), ⟨hI, hpt⟩, G2, A2, fr, w2, sl2, fun q cs3 G3 A3 H3 ⟨r1, r2⟩ e3 a3 l3 w3 => ?_⟩
  have r1' : cs3 = cs2 := r1
  have r2' : q = p := r2
  subst r1' r2'
  cases q with
  | true =>
    refine iteT ⟨fun σ4 H4 => ∃ m', m' < m ∧ ∃ G' A' cs' ds', I m' ds' cs' ∧ Ex G G' ∧ AEx cs.length A A' ∧ cs.length ≤ cs'.length ∧ W G' A' cs' fr H4 ∧ Sl X.K G' A' cs'.length σ4 ds', fun σ4 H4 ⟨m', h1, h2⟩ => ⟨m', h1, h2⟩, (m, ds2, cs3), ⟨hI, hpt, ht rfl⟩, G3, A3, fr, w3, sl2.mono e3 a3 l3, ⟨?_, ?_, fun _ _ _ _ _ _ z => z.elim, ?_⟩⟩
    · exact fun ds5 cs5 G5 A5 σ5 H5 ⟨m', hm', r5⟩ e5 a5 l5 w5 sl5 => ⟨m', hm', G5, A5, cs5, ds5, r5, e2.trans (e3.trans e5), (a2.trans a3 l2).trans a5 (Nat.le_trans l2 l3), Nat.le_trans l2 (Nat.le_trans l3 l5), w5, sl5⟩
    · exact go.rt.step (e2.trans e3) (a2.trans a3 l2) (Nat.le_trans l2 l3)
    · exact fun ds5 cs5 G5 A5 σ5 H5 ⟨m', hm', r5⟩ e5 a5 l5 w5 sl5 => ⟨m', hm', G5, A5, cs5, ds5, r5, e2.trans (e3.trans e5), (a2.trans a3 l2).trans a5 (Nat.le_trans l2 l3), Nat.le_trans l2 (Nat.le_trans l3 l5), w5, sl5⟩
  | false => exact iteF (go.nx _ _ _ _ _ _ (hf rfl) (e2.trans e3) (a2.trans a3 l2) (Nat.le_trans l2 l3) w3 (sl2.mono e3 a3 l3))
end
end DL
set_option Elab.async false
set_option linter.all false
set_option maxRecDepth 100000
set_option maxHeartbeats 2000000
/-! DL7: defs over data: their promises, their bodies, their calls. -/
namespace DL
open PySem PySem.Spec PyProof.Rows L2

/-- what a def is asked: its arguments, the cells that it is handed, where it ends -/
abbrev Spec := List SV → Cells → (Cells → SV → Prop) → Prop
def spD (K : PySem.W.Frag) (S : Spec) : Sp := fun vs H Q _ => ∃ G A fr cs xs R, S xs cs R ∧ W G A cs fr H ∧ VOks K G A cs.length vs xs ∧ Go K G A cs.length fr R Q
def startD (N : List Str) (xs : List SV) : Slots := xs.map some ++ List.replicate (N.length - xs.length) none
theorem sl_start {K : PySem.W.Frag} {G : Hp} {A : Nat → List Addr} {n : Nat} {N : List Str} {vs : List V} {xs : List SV} (h : VOks K G A n vs xs) : Sl K G A n (L2.start N vs) (startD N xs) := by
  have hl := h.length
  refine ⟨by simp [L2.start, startD, hl], fun i sv q => ?_⟩
  have key : ∀ {vs : List V} {xs : List SV} (i : Nat), VOks K G A n vs xs → (xs.map some)[i]? = some (some sv) → ∃ v, (vs.map some)[i]? = some (some v) ∧ VOk K G A n v sv := by
    intro vs xs i h
    induction h generalizing i with
    | nil => intro q; simp at q
    | cons h1 _ ih =>
      intro q
      cases i with
      | zero => simp at q; subst q; exact ⟨_, rfl, h1⟩
      | succ i =>
        obtain ⟨v, a, b⟩ := ih i (by simpa using q)
        exact ⟨v, by simpa using a, b⟩
  unfold startD at q
  by_cases hi : i < xs.length
  · rw [List.getElem?_append_left (by simpa using hi)] at q
    obtain ⟨v, h1, h2⟩ := key i h q
    refine ⟨v, ?_, h2⟩
    unfold L2.start
    rw [List.getElem?_append_left (by rw [List.length_map, hl]; exact hi)]
    exact h1
  · rw [List.getElem?_append_right (by simp; omega)] at q
    rw [List.getElem?_replicate] at q
    split at q <;> cases q
section
variable {P : Program} {w : World} {K : PySem.W.Frag} {mg : Str → Option Value} {base : Heap}
abbrev bodyX (P : Program) (w : World) (K : PySem.W.Frag) (mg : Str → Option Value) (base : Heap) (N : List Str) (qual : Str) (sc : Scope) (f : Addr) (cdv : Value) (A : Around) (outer : List Env) (s : Shared) (H : Hp) (E : XK) : Cx := (cxOf CX0 P w K mg base N qual sc f cdv A outer s H E).nox
theorem fn_def {x qual : Str} {st : Stmt} {f : Addr} {fd : FuncData} {N ps : List Str} {k : Nat} {Sp : Spec} (F : Fun K x qual st f fd) (S : FnScope N ps (defScope st)) (hlen : ∀ xs cs R, Sp xs cs R → xs.length = ps.length)
    (hbody : ∀ (cdv : Value) (A : Around) (outer : List Env) (s : Shared) (H : Hp) (E : XK) (xs : List SV) (cs : Cells) (R : Cells → SV → Prop), Room k (A.deeper (envOfC qual (defScope st) s.heap.objs.size f cdv)) → Sp xs cs R →
      SD (bodyX P w K mg base N qual (defScope st) f cdv A outer s H E) (startD N xs) cs (defBody st) { nx := fun _ cs' => R cs' (.d .none), rt := fun sv cs' => R cs' sv }) : FnOk P w K mg base CX0 (k + 1) f fd ps (spD K Sp) := by
  refine F.ok S (fun vs H Q E ⟨G, A, fr, cs, xs, R, h1, _, h2, _⟩ => by rw [h2.length]; exact hlen xs cs R h1) (fun cdv A outer s H vs Q E hr ⟨G, A', fr, cs, xs, R, h1, h2, h3, h4⟩ => ?_)
  refine ⟨_, hbody cdv A outer s H E xs cs R hr h1, G, A', fr, h2, sl_start h3, ⟨?_, ?_, fun _ _ _ _ _ _ z => z.elim, fun _ _ _ _ _ _ z => z.elim⟩⟩
  · exact fun ds' cs' G2 A2 σ2 H2 r e a l w2 _ => h4 .non (.d .none) cs' G2 A2 H2 r e a l w2 .non
  · exact h4
end

/-! ### calls -/
def noOwn : SV → Prop
  | .own _ => False
  | _ => True
theorem VOk.noOwn {K : PySem.W.Frag} {G : Hp} {A A' : Nat → List Addr} {n n' : Nat} {v : V} {x : SV} (h : VOk K G A n v x) (k : noOwn x) : VOk K G A' n' v x := by
  cases x with
  | d x => exact h
  | own j => exact k.elim
  | ro ns => exact h
theorem VOks.noOwn {K : PySem.W.Frag} {G : Hp} {A A' : Nat → List Addr} {n n' : Nat} : ∀ {vs : List V} {xs : List SV}, VOks K G A n vs xs → (∀ x ∈ xs, noOwn x) → VOks K G A' n' vs xs
  | _, _, .nil, _ => .nil
  | _, _, .cons h k, f => .cons (h.noOwn (f _ (by simp))) (VOks.noOwn k fun x hx => f x (by simp [hx]))
open Classical in
/-- the frame, and the cells but those of S -/
noncomputable def frX (A : Nat → List Addr) (cs : Cells) (fr H : Hp) (S : Nat → Prop) : Hp := fun a => if ∃ j c, ¬ S j ∧ cs[j]? = some (some c) ∧ a ∈ A j then H a else fr a
section
variable {G : Hp} {A : Nat → List Addr} {cs : Cells} {fr H : Hp} {S : Nat → Prop}
theorem frX_in {j : Nat} {c : Cell} {a : Addr} (hj : ¬ S j) (hc : cs[j]? = some (some c)) (ha : a ∈ A j) : frX A cs fr H S a = H a := if_pos ⟨j, c, hj, hc, ha⟩
theorem frX_out {a : Addr} (h : ∀ j c, ¬ S j → cs[j]? = some (some c) → a ∉ A j) : frX A cs fr H S a = fr a := if_neg fun ⟨j, c, h1, h2, h3⟩ => h j c h1 h2 h3
theorem W.frX_gf (w : W G A cs fr H) : ∀ a o, frX A cs fr H S a = some o → G a = none := fun a o q => by
  by_cases h : ∃ j c, ¬ S j ∧ cs[j]? = some (some c) ∧ a ∈ A j
  · obtain ⟨j, c, h1, h2, h3⟩ := h
    exact (w.own j c h2 a h3).1
  · rw [frX_out fun j c h1 h2 h3 => h ⟨j, c, h1, h2, h3⟩] at q
    exact w.gf a o q
theorem W.frX_fh (w : W G A cs fr H) : Ex (frX A cs fr H S) H := fun a o q => by
  by_cases h : ∃ j c, ¬ S j ∧ cs[j]? = some (some c) ∧ a ∈ A j
  · obtain ⟨j, c, h1, h2, h3⟩ := h
    rw [frX_in h1 h2 h3] at q; exact q
  · rw [frX_out fun j c h1 h2 h3 => h ⟨j, c, h1, h2, h3⟩] at q
    exact w.fh a o q
theorem W.frX_ge (w : W G A cs fr H) : Ex fr (frX A cs fr H S) := fun a o q => by
  have h : ∀ j c, ¬ S j → cs[j]? = some (some c) → a ∉ A j := fun j c _ h2 h3 => by
    rw [(w.own j c h2 a h3).2] at q; cases q
  rw [frX_out h]; exact q
/-- what stood in the other cells stands -/
theorem W.frX_cell (w : W G A cs fr H) {G' H' : Hp} (e : Ex G G') (f : Ex (frX A cs fr H S) H') {j : Nat} {c : Cell} (hj : ¬ S j) (hc : cs[j]? = some (some c)) : CellOk G' H' (A j) c :=
  (w.cell j c hc).mono e fun a ha o ho => f a o (by rw [frX_in hj hc ha]; exact ho)
theorem W.frX_live (w : W G A cs fr H) {j : Nat} {c : Cell} (hj : ¬ S j) (hc : cs[j]? = some (some c)) {a : Addr} (ha : a ∈ A j) : ∃ o, frX A cs fr H S a = some o := by
  obtain ⟨o, q⟩ := (w.cell j c hc).live a ha
  exact ⟨o, by rw [frX_in hj hc ha]; exact q⟩
/-- into a call that is handed no cell -/
theorem W.into0 (w : W G A cs fr H) : W G A [] (frX A cs fr H fun _ => False) H :=
  ⟨w.gh, w.frX_fh, w.frX_gf, fun k c q => by simp at q, fun k c q => by simp at q, fun k c q => by simp at q, fun j k c d _ q => by simp at q⟩
theorem W.back0 {G' : Hp} {A' : Nat → List Addr} {H' : Hp} (w : W G A cs fr H) (e : Ex G G') (w' : W G' A' [] (frX A cs fr H fun _ => False) H') : W G' A cs fr H' := by
  refine ⟨w'.gh, w.frX_ge.trans w'.fh, fun a o q => w'.gf a o (w.frX_ge a o q), fun k c q => w.frX_cell e w'.fh (fun z => z) q, w.nd, fun k c q a ha => ⟨?_, (w.own k c q a ha).2⟩, w.apart⟩
  obtain ⟨o, ho⟩ := w.frX_live (S := fun _ => False) (fun z => z) q ha
  exact w'.gf a o ho
theorem W.back0c {G' : Hp} {A' : Nat → List Addr} {H' : Hp} {c : Cell} (w : W G A cs fr H) (e : Ex G G') (w' : W G' A' [some c] (frX A cs fr H fun _ => False) H') :
    W G' (fun k => if k = cs.length then A' 0 else A k) (cs ++ [some c]) fr H' ∧ AEx cs.length A (fun k => if k = cs.length then A' 0 else A k) := by
  have old : ∀ k d, (cs ++ [some c])[k]? = some (some d) → (k < cs.length ∧ cs[k]? = some (some d)) ∨ (k = cs.length ∧ d = c) := fun k d q => by
    by_cases hk : k < cs.length
    · rw [List.getElem?_append_left hk] at q; exact .inl ⟨hk, q⟩
    · rw [List.getElem?_append_right (by omega)] at q
      have hk0 : k - cs.length = 0 := by
        cases e : k - cs.length with
        | zero => rfl
        | succ m => rw [e] at q; simp at q
      rw [hk0] at q
      simp at q
      exact .inr ⟨by omega, q.symm⟩
  have no : ∀ k, k < cs.length → ¬ k = cs.length := fun k h e => by omega
  have h0 : ([some c] : Cells)[0]? = some (some c) := rfl
  have sep : ∀ k d, cs[k]? = some (some d) → ∀ a ∈ A k, a ∉ A' 0 := fun k d q a ha hm => by
    obtain ⟨o, ho⟩ := w.frX_live (S := fun _ => False) (fun z => z) q ha
    have z := (w'.own 0 c h0 a hm).2
    rw [ho] at z; cases z
  refine ⟨⟨w'.gh, w.frX_ge.trans w'.fh, fun a o q => w'.gf a o (w.frX_ge a o q), fun k d q => ?_, fun k d q => ?_, fun k d q a ha => ?_, fun j k d d' ne q1 q2 a ha => ?_⟩, fun k hk => if_neg (no k hk)⟩
  · rcases old k d q with ⟨hk, q⟩ | ⟨rfl, rfl⟩
    · rw [if_neg (no k hk)]; exact w.frX_cell e w'.fh (fun z => z) q
    · rw [if_pos rfl]; exact w'.cell 0 _ h0
  · rcases old k d q with ⟨hk, q⟩ | ⟨rfl, rfl⟩
    · rw [if_neg (no k hk)]; exact w.nd k d q
    · rw [if_pos rfl]; exact w'.nd 0 _ h0
  · rcases old k d q with ⟨hk, q⟩ | ⟨rfl, rfl⟩
    · rw [if_neg (no k hk)] at ha
      obtain ⟨o, ho⟩ := w.frX_live (S := fun _ => False) (fun z => z) q ha
      exact ⟨w'.gf a o ho, (w.own k d q a ha).2⟩
    · rw [if_pos rfl] at ha
      obtain ⟨h1, h2⟩ := w'.own 0 _ h0 a ha
      exact ⟨h1, w.frX_ge.fresh h2⟩
  · rcases old j d q1 with ⟨hj, q1'⟩ | ⟨hj, _⟩
    · rw [if_neg (no j hj)] at ha
      rcases old k d' q2 with ⟨hk, q2'⟩ | ⟨hk, _⟩
      · rw [if_neg (no k hk)]; exact w.apart j k d d' ne q1' q2' a ha
      · rw [if_pos hk]; exact sep j d q1' a ha
    · rw [if_pos hj] at ha
      rcases old k d' q2 with ⟨hk, q2'⟩ | ⟨hk, _⟩
      · rw [if_neg (no k hk)]; exact fun hm => sep k d' q2' a hm ha
      · exact absurd (hj.trans hk.symm) ne
/-- into a call that is handed the cell m -/
theorem W.into1 {m : Nat} {c : Cell} (w : W G A cs fr H) (hm : cs[m]? = some (some c)) : W G (fun _ => A m) [some c] (frX A cs fr H fun j => j = m) H := by
  have h0 : ∀ k d, ([some c] : Cells)[k]? = some (some d) → k = 0 ∧ d = c := fun k d q => by
    cases k with
    | zero => simp at q; exact ⟨rfl, q.symm⟩
    | succ k => simp at q
  refine ⟨w.gh, w.frX_fh, w.frX_gf, fun k d q => ?_, fun k d q => ?_, fun k d q a ha => ?_, fun j k d d' ne q1 q2 => ?_⟩
  · obtain ⟨_, rfl⟩ := h0 k d q; exact w.cell m _ hm
  · exact w.nd m c hm
  · refine ⟨(w.own m c hm a ha).1, ?_⟩
    rw [frX_out fun j c' h1 h2 h3 => w.apart j m c' c h1 h2 hm a h3 ha]
    exact (w.own m c hm a ha).2
  · exact absurd ((h0 j d q1).1.trans (h0 k d' q2).1.symm) ne
theorem W.back1 {m : Nat} {c c' : Cell} {G' : Hp} {A' : Nat → List Addr} {H' : Hp} (w : W G A cs fr H) (hm : cs[m]? = some (some c)) (e : Ex G G') (ea : A' 0 = A m) (w' : W G' A' [some c'] (frX A cs fr H fun j => j = m) H') : W G' A (cs.set m (some c')) fr H' := by
  have h0 : ([some c'] : Cells)[0]? = some (some c') := rfl
  have g : ∀ (i : Nat) (d : Cell), (cs.set m (some c'))[i]? = some (some d) → (i = m ∧ d = c') ∨ (i ≠ m ∧ cs[i]? = some (some d)) := fun i d q => by
    rcases set_get q with ⟨h1, _, z⟩ | h
    · cases z; exact .inl ⟨h1, rfl⟩
    · exact .inr h
  refine ⟨w'.gh, w.frX_ge.trans w'.fh, fun a o q => w'.gf a o (w.frX_ge a o q), fun k d q => ?_, fun k d q => ?_, fun k d q a ha => ?_, fun j k d d' ne q1 q2 => ?_⟩
  · rcases g k d q with ⟨rfl, rfl⟩ | ⟨hk, q⟩
    · rw [← ea]; exact w'.cell 0 _ h0
    · exact w.frX_cell e w'.fh hk q
  · rcases g k d q with ⟨rfl, rfl⟩ | ⟨hk, q⟩
    · exact w.nd _ c hm
    · exact w.nd k d q
  · rcases g k d q with ⟨rfl, rfl⟩ | ⟨hk, q⟩
    · rw [← ea] at ha
      obtain ⟨h1, h2⟩ := w'.own 0 _ h0 a ha
      exact ⟨h1, w.frX_ge.fresh h2⟩
    · obtain ⟨o, ho⟩ := w.frX_live (S := fun j => j = m) hk q ha
      exact ⟨w'.gf a o ho, (w.own k d q a ha).2⟩
  · obtain ⟨x, hx⟩ : ∃ x, cs[j]? = some (some x) := by
      rcases g j d q1 with ⟨rfl, _⟩ | ⟨_, q⟩
      · exact ⟨c, hm⟩
      · exact ⟨d, q⟩
    obtain ⟨y, hy⟩ : ∃ y, cs[k]? = some (some y) := by
      rcases g k d' q2 with ⟨rfl, _⟩ | ⟨_, q⟩
      · exact ⟨c, hm⟩
      · exact ⟨d', q⟩
    exact w.apart j k x y ne hx hy
end
/-- how a def that is handed no cell ends, seen by its caller -/
def End0 (cs : Cells) (R Rc : Cells → SV → Prop) : Prop := ∀ cc sv, Rc cc sv → (cc = [] ∧ noOwn sv ∧ R cs sv) ∨ ∃ c, cc = [some c] ∧ sv = .own 0 ∧ R (cs ++ [some c]) (.own cs.length)
def End1 (cs : Cells) (m : Nat) (R Rc : Cells → SV → Prop) : Prop := ∀ cc sv, Rc cc sv → ∃ c, cc = [some c] ∧ noOwn sv ∧ R (cs.set m (some c)) sv
/-- the def's own cell 0 is the caller's m -/
def renM (m : Nat) : SV → SV
  | .own 0 => .own m
  | x => x
section
variable {K : PySem.W.Frag} {S : Spec} {cs : Cells} {R : Cells → SV → Prop} {G : Hp} {A : Nat → List Addr} {fr H : Hp} {vs : List V} {xs : List SV} {Q : VK} {E : XK}
theorem call0 {Rc : Cells → SV → Prop} (w : W G A cs fr H) (ok : VOks K G A cs.length vs xs) (hn : ∀ x ∈ xs, noOwn x) (hS : S xs [] Rc) (hE : End0 cs R Rc) (g : Go K G A cs.length fr R Q) : spD K S vs H Q E := by
  refine ⟨G, A, _, [], xs, Rc, hS, w.into0, ok.noOwn hn, fun v sv cc G2 A2 H2 r e a l w2 ok2 => ?_⟩
  rcases hE cc sv r with ⟨rfl, hsv, hR⟩ | ⟨c, rfl, rfl, hR⟩
  · exact g v sv cs G2 A H2 hR e (AEx.refl _ _) (Nat.le_refl _) (w.back0 e w2) (ok2.noOwn hsv)
  · obtain ⟨w3, a3⟩ := w.back0c e w2
    obtain ⟨_, b, m, h1, h2⟩ := ok2
    exact g v _ _ G2 _ H2 hR e a3 (by simp) w3 ⟨by simp, b, m, (if_pos rfl).trans h1, h2⟩
theorem voks_ren {m : Nat} {c : Cell} (hm : cs[m]? = some (some c)) : ∀ {vs : List V} {zs : List SV}, VOks K G A cs.length vs (zs.map (renM m)) → (∀ z ∈ zs, noOwn z ∨ z = .own 0) → VOks K G (fun _ => A m) 1 vs zs
  | _, [], .nil, _ => .nil
  | _, z :: zs, .cons h k, f => by
    refine .cons ?_ (voks_ren hm k fun x hx => f x (by simp [hx]))
    rcases f z (by simp) with hz | hz
    · cases z with
      | d x => exact h
      | own j => exact hz.elim
      | ro ns => exact h
    · subst hz
      obtain ⟨_, b, l, h1, h2⟩ := h
      exact ⟨Nat.zero_lt_one, b, l, h1, h2⟩
theorem call1 {m : Nat} {c : Cell} {zs : List SV} {Rc : Cells → SV → Prop} (w : W G A cs fr H) (hm : cs[m]? = some (some c)) (ok : VOks K G A cs.length vs (zs.map (renM m))) (hn : ∀ z ∈ zs, noOwn z ∨ z = .own 0) (hS : S zs [some c] Rc) (hE : End1 cs m R Rc) (g : Go K G A cs.length fr R Q) : spD K S vs H Q E := by
  refine ⟨G, fun _ => A m, _, [some c], zs, Rc, hS, w.into1 hm, voks_ren hm ok hn, fun v sv cc G2 A2 H2 r e a l w2 ok2 => ?_⟩
  obtain ⟨c', rfl, hsv, hR⟩ := hE cc sv r
  exact g v sv _ G2 A H2 hR e (AEx.refl _ _) (by rw [List.length_set]; exact Nat.le_refl _) (w.back1 hm e (a 0 Nat.zero_lt_one) w2) (ok2.noOwn hsv)
end
section
variable {X : Cx} {k : Nat} {f : Addr} {fd : FuncData} {ps : List Str} {S : Spec} {x : Str} {p pos : Pos} {e : Expr} {es : List Expr} {ds : Slots} {cs : Cells} {R : Cells → SV → Prop}
/-- a call of a def that is handed no cell -/
theorem pd_call {Ra : Cells → List SV → Prop} (F : FnOk X.prog X.w X.K X.mg X.base CX0 k f fd ps (spD X.K S)) (hr : Room k X.A) (hm : X.mg x = some (.ref f)) (hk : PySem.W.keepIn X.K (.ref f) = true) (hb : Binds X.K fd ps []) (ha : PDA X ds cs (e :: es) Ra)
    (h : ∀ cs1 xs, Ra cs1 xs → (∀ x ∈ xs, noOwn x) ∧ ∃ Rc, S xs [] Rc ∧ End0 cs1 R Rc) (hg : Gl X x := by rfl) (hdb : (x == ("__debug__" : Str)) = false := by decide)
    (he : starEach (e :: es) X.env = (false, eval e X.env) :: starEach es X.env := by rfl) (hpl : (backTo pos (starEach es X.env)).any (·.1) = false := by rfl) : PD X ds cs (.Call (.Name x p) (e :: es) [] pos) R := by
  refine pe_imp (pe_call F hr hg hm hk hb .nil pass0 ha hdb he hpl) fun σ H Q ⟨G, A, fr, w, sl, g⟩ => ⟨G, A, fr, w, sl, fun vs xs cs1 G1 A1 H1 r1 e1 a1 l1 w1 ok1 => ?_⟩
  obtain ⟨hn, Rc, hS, hE⟩ := h cs1 xs r1
  rw [List.append_nil]
  exact call0 w1 ok1 hn hS hE (g.step e1 a1 l1)
/-- .. the cell m -/
theorem pd_call1 {Ra : Cells → List SV → Prop} {m : Nat} (F : FnOk X.prog X.w X.K X.mg X.base CX0 k f fd ps (spD X.K S)) (hr : Room k X.A) (hm : X.mg x = some (.ref f)) (hk : PySem.W.keepIn X.K (.ref f) = true) (hb : Binds X.K fd ps []) (ha : PDA X ds cs (e :: es) Ra)
    (h : ∀ cs1 xs, Ra cs1 xs → ∃ c zs Rc, cs1[m]? = some (some c) ∧ xs = zs.map (renM m) ∧ (∀ z ∈ zs, noOwn z ∨ z = .own 0) ∧ S zs [some c] Rc ∧ End1 cs1 m R Rc) (hg : Gl X x := by rfl) (hdb : (x == ("__debug__" : Str)) = false := by decide)
    (he : starEach (e :: es) X.env = (false, eval e X.env) :: starEach es X.env := by rfl) (hpl : (backTo pos (starEach es X.env)).any (·.1) = false := by rfl) : PD X ds cs (.Call (.Name x p) (e :: es) [] pos) R := by
  refine pe_imp (pe_call F hr hg hm hk hb .nil pass0 ha hdb he hpl) fun σ H Q ⟨G, A, fr, w, sl, g⟩ => ⟨G, A, fr, w, sl, fun vs xs cs1 G1 A1 H1 r1 e1 a1 l1 w1 ok1 => ?_⟩
  obtain ⟨c, zs, Rc, hc, rfl, hn, hS, hE⟩ := h cs1 xs r1
  rw [List.append_nil]
  exact call1 w1 hc ok1 hn hS hE (g.step e1 a1 l1)
/-- a pure def: data in, one datum out -/
def PureS (f : List SV → PyData → Prop) : Spec := fun xs cs R => cs = [] ∧ (∀ x ∈ xs, noOwn x) ∧ ∃ d, f xs d ∧ R [] (.d d)
theorem pv_call {xs : List SV} {d : PyData} {fn : List SV → PyData → Prop} (F : FnOk X.prog X.w X.K X.mg X.base CX0 k f fd ps (spD X.K (PureS fn))) (hr : Room k X.A) (hm : X.mg x = some (.ref f)) (hk : PySem.W.keepIn X.K (.ref f) = true) (hb : Binds X.K fd ps []) (ha : PVA X ds cs (e :: es) xs)
    (h : fn xs d) (hn : ∀ x ∈ xs, noOwn x := by simp [noOwn]) (hg : Gl X x := by rfl) (hdb : (x == ("__debug__" : Str)) = false := by decide)
    (he : starEach (e :: es) X.env = (false, eval e X.env) :: starEach es X.env := by rfl) (hpl : (backTo pos (starEach es X.env)).any (·.1) = false := by rfl) : PV X ds cs (.Call (.Name x p) (e :: es) [] pos) (.d d) :=
  pd_call F hr hm hk hb ha (fun cs1 ys ⟨e1, e2⟩ => by
    rw [e2]
    exact ⟨hn, fun cc sv => cc = [] ∧ sv = .d d, ⟨rfl, hn, d, h, rfl, rfl⟩, fun cc sv ⟨h1, h2⟩ => .inl ⟨h1, by rw [h2]; trivial, e1, h2⟩⟩) hg hdb he hpl

/-! keywords alone -/
theorem pe_callK0 {ks : List Str} {sp : Sp} {E : XK} {CX : CXT} {tk : TA} {kws : List Keyword} {g : List Value → List Value → List Value} {gV : List V → List V → List V} (F : FnOk X.prog X.w X.K X.mg X.base CX k f fd ps sp) (hr : Room k X.A) (hg : Gl X x) (hm : X.mg x = some (.ref f)) (hk : PySem.W.keepIn X.K (.ref f) = true) (hb : KBinds X.K fd ps ks g gV) (hx : Passes CX X E)
    (hkw : PK X kws tk) (hall : (backToKw pos (keywordEach kws X.env)).all (·.1.isSome) = true) (hks : (backToKw pos (keywordEach kws X.env)).filterMap (·.1) = ks)
    (hdb : (x == ("__debug__" : Str)) = false := by decide)
    (hpl : ((backTo pos (starEach [] X.env)).any (·.1) || (backToKw pos (keywordEach kws X.env)).any (·.1.isNone)) = false := by rfl) :
    PE X (.Call (.Name x p) [] kws pos) (tCallK sp gV E tNil tk) := by
  refine ⟨fun pins s σ H Q I h => ?_⟩
  refine wpAny_Call_Name_kw (ld_glob I hg hm ?_ hdb)
  refine PySem.W.callWith_KW0 (h₀ := X.base) I.ok.mod.kin hk hall (thn (hkw.run pos pins s σ H _ I h) fun ws s2 ⟨zs, H2, I2, rz, q2⟩ => ⟨I2.kIn, ?_⟩) hpl
  rw [hks]
  exact run_fnk F hr hb hx I2 .nil rz q2
def PDK (X : Cx) (ds : Slots) (cs : Cells) (kws : List Keyword) (R : Cells → List SV → Prop) : Prop := PK X kws (tDA X.K ds cs R)
theorem pk_imp {kws : List Keyword} {t t' : TA} (h : PK X kws t) (k : ∀ σ H Q, t' σ H Q → t σ H Q) : PK X kws t' := ⟨fun pos pins s σ H Q I q => h.run pos pins s σ H Q I (k σ H Q q)⟩
theorem pvk_nil : PDK X ds cs [] (Is cs []) := pk_imp pk_nil fun σ H Q ⟨G, A, fr, w, sl, g⟩ => g _ _ cs G A H ⟨rfl, rfl⟩ (Ex.refl G) (AEx.refl _ _) (Nat.le_refl _) w .nil
theorem pvk_cons {kws : List Keyword} {nm : Option Str} {kpos : Pos} {sv : SV} {xs : List SV} (ha : PV X ds cs e sv) (hr : PDK X ds cs kws (Is cs xs)) : PDK X ds cs (⟨nm, e, kpos⟩ :: kws) (Is cs (sv :: xs)) := by
  refine pk_imp (pk_cons ha hr) fun σ H Q ⟨G, A, fr, w, sl, g⟩ => ?_
  refine ⟨G, A, fr, w, sl, fun v x cs1 G1 A1 H1 ⟨r1, r2⟩ e1 a1 l1 w1 ok1 => ?_⟩
  subst r1 r2
  refine ⟨G1, A1, fr, w1, sl.mono e1 a1 l1, fun vs ys cs2 G2 A2 H2 ⟨r3, r4⟩ e2 a2 l2 w2 ok2 => ?_⟩
  subst r3 r4
  exact g _ _ _ G2 A2 H2 ⟨rfl, rfl⟩ (e1.trans e2) (a1.trans a2 l1) (Nat.le_trans l1 l2) w2 (.cons (ok1.mono e2 a2 l2) ok2)
/-- f(a = .., ..), pure, the values put into the parameters' order by gS -/
theorem pv_callK {ks : List Str} {xs : List SV} {d : PyData} {fn : List SV → PyData → Prop} {kws : List Keyword} {g : List Value → List Value → List Value} {gV : List V → List V → List V} (gS : List SV → List SV) (F : FnOk X.prog X.w X.K X.mg X.base CX0 k f fd ps (spD X.K (PureS fn))) (hr : Room k X.A) (hm : X.mg x = some (.ref f)) (hk : PySem.W.keepIn X.K (.ref f) = true) (hb : KBinds X.K fd ps ks g gV)
    (hgS : ∀ (G : Hp) (A : Nat → List Addr) (n : Nat) (vs : List V), VOks X.K G A n vs xs → VOks X.K G A n (gV [] vs) (gS xs)) (ha : PDK X ds cs kws (Is cs xs)) (h : fn (gS xs) d) (hn : ∀ x ∈ gS xs, noOwn x := by simp [noOwn]) (hg : Gl X x := by rfl)
    (hall : (backToKw pos (keywordEach kws X.env)).all (·.1.isSome) = true := by rfl) (hks : (backToKw pos (keywordEach kws X.env)).filterMap (·.1) = ks := by rfl) (hdb : (x == ("__debug__" : Str)) = false := by decide)
    (hpl : ((backTo pos (starEach [] X.env)).any (·.1) || (backToKw pos (keywordEach kws X.env)).any (·.1.isNone)) = false := by rfl) : PV X ds cs (.Call (.Name x p) [] kws pos) (.d d) := by
  refine pe_imp (pe_callK0 F hr hg hm hk hb pass0 ha hall hks hdb hpl) fun σ H Q ⟨G, A, fr, w, sl, go⟩ => ?_
  refine ⟨G, A, fr, w, sl, fun vs ys cs1 G1 A1 H1 ⟨r1, r2⟩ e1 a1 l1 w1 ok1 => ?_⟩
  subst r1 r2
  exact call0 (Rc := fun cc sv => cc = [] ∧ sv = .d d) w1 (hgS _ _ _ _ ok1) hn ⟨rfl, hn, d, h, rfl, rfl⟩ (fun cc sv ⟨h1, h2⟩ => .inl ⟨h1, by rw [h2]; trivial, ⟨rfl, h2⟩⟩) (go.step e1 a1 l1)
end
end DL
set_option Elab.async false
set_option linter.all false
set_option maxRecDepth 100000
set_option maxHeartbeats 2000000
/-! DL8: cells laid open (for good, for one expression), lists of lists of one's own made by a comprehension, comprehensions of two clauses. -/
namespace DL
open PySem PySem.Spec PyProof.Rows L2

/-- no list within -/
inductive Lf : PyData → Prop where
  | non : Lf .none
  | bl (b : Bool) : Lf (.bool b)
  | int (i : Int) : Lf (.int i)
  | str (x : Str) : Lf (.str x)
  | tup {xs : List PyData} : (∀ x ∈ xs, Lf x) → Lf (.tuple xs)
mutual
theorem Dt.drop {G G' : Hp} (e : ∀ b vs, G b = some (.tup vs) → G' b = some (.tup vs)) : ∀ {v : V} {d : PyData}, Dt G v d → Lf d → Dt G' v d
  | _, _, .non, _ => .non
  | _, _, .bl b, _ => .bl b
  | _, _, .int i, _ => .int i
  | _, _, .str x, _ => .str x
  | _, _, .lst _ _, l => nomatch l
  | _, _, .tup h k, .tup l => .tup (e _ _ h) (DtAll.drop' e k l)
theorem DtAll.drop' {G G' : Hp} (e : ∀ b vs, G b = some (.tup vs) → G' b = some (.tup vs)) : ∀ {vs : List V} {ds : List PyData}, DtAll G vs ds → (∀ x ∈ ds, Lf x) → DtAll G' vs ds
  | _, _, .nil, _ => .nil
  | _, _, .cons h k, l => .cons (Dt.drop e h (l _ (by simp))) (DtAll.drop' e k fun x hx => l x (by simp [hx]))
end
def CLf : Cell → Prop
  | .lst ds => ∀ x ∈ ds, Lf x
  | .mat rs => ∀ r ∈ rs, ∀ x ∈ r, Lf x
theorem Rows.drop {G G' H : Hp} (e : ∀ b vs, G b = some (.tup vs) → G' b = some (.tup vs)) : ∀ {bs : List Addr} {rs : List (List PyData)}, Rows G H bs rs → (∀ r ∈ rs, ∀ x ∈ r, Lf x) → Rows G' H bs rs
  | _, _, .nil, _ => .nil
  | _, _, .cons h k r, l => .cons h (k.drop' e (l _ (by simp))) (Rows.drop e r fun x hx => l x (by simp [hx]))
theorem CellOk.drop {G G' H : Hp} (e : ∀ b vs, G b = some (.tup vs) → G' b = some (.tup vs)) {as : List Addr} {c : Cell} (h : CellOk G H as c) (l : CLf c) : CellOk G' H as c := by
  cases c with
  | lst ds =>
    obtain ⟨a, vs, h1, h2, h3⟩ := h
    exact ⟨a, vs, h1, h2, h3.drop' e l⟩
  | mat rs =>
    obtain ⟨a, bs, h1, h2, h3⟩ := h
    exact ⟨a, bs, h1, h2, h3.drop e l⟩
/-- a cell as data -/
def Cell.data : Cell → PyData
  | .lst ds => .list ds
  | .mat rs => .list (rs.map .list)
def frzG (G H : Hp) (as : List Addr) : Hp := fun b => if b ∈ as then H b else G b
def minG (G : Hp) (as : List Addr) : Hp := fun b => if b ∈ as then none else G b
theorem rows_all {G G' H : Hp} (e : Ex G G') : ∀ {bs : List Addr} {rs : List (List PyData)}, Rows G H bs rs → (∀ b ∈ bs, G' b = H b) → DtAll G' (bs.map V.ref) (rs.map PyData.list)
  | _, _, .nil, _ => .nil
  | _, _, .cons h k r, f => .cons (.lst ((f _ (by simp)).trans h) (k.mono e)) (rows_all e r fun b hb => f b (by simp [hb]))
section
variable {G : Hp} {A : Nat → List Addr} {cs : Cells} {fr H : Hp} {m : Nat} {c : Cell}
theorem W.frz (w : W G A cs fr H) (hm : cs[m]? = some (some c)) : W (frzG G H (A m)) A (cs.set m none) fr H ∧ Ex G (frzG G H (A m)) ∧ ∀ a l, A m = a :: l → Dt (frzG G H (A m)) (.ref a) c.data := by
  have ex : Ex G (frzG G H (A m)) := fun b o q => by
    unfold frzG
    rw [if_neg (fun hb => by rw [(w.own m c hm b hb).1] at q; cases q)]
    exact q
  have g : ∀ (i : Nat) (d : Cell), (cs.set m none)[i]? = some (some d) → i ≠ m ∧ cs[i]? = some (some d) := fun i d q => by
    rcases set_get q with ⟨_, _, z⟩ | h
    · cases z
    · exact h
  have inn : ∀ b ∈ A m, frzG G H (A m) b = H b := fun b hb => if_pos hb
  refine ⟨⟨fun b o q => ?_, w.fh, fun b o q => ?_, fun j d q => (w.cell j d (g j d q).2).mono ex fun _ _ _ h => h, fun j d q => w.nd j d (g j d q).2, fun j d q a ha => ⟨?_, (w.own j d (g j d q).2 a ha).2⟩, fun i j d d' ne q1 q2 => w.apart i j d d' ne (g i d q1).2 (g j d' q2).2⟩, ex, fun a l ea => ?_⟩
  · unfold frzG at q
    split at q
    · exact q
    · exact w.gh b o q
  · unfold frzG
    rw [if_neg (fun hb => by rw [(w.own m c hm b hb).2] at q; cases q)]
    exact w.gf b o q
  · unfold frzG
    rw [if_neg (w.apart j m d c (g j d q).1 (g j d q).2 hm a ha)]
    exact (w.own j d (g j d q).2 a ha).1
  · have hc := w.cell m c hm
    cases c with
    | lst xs =>
      obtain ⟨a', vs, ea', h1, h2⟩ := hc
      rw [ea] at ea'; cases ea'
      exact .lst ((inn a (by rw [ea]; simp)).trans h1) (h2.mono ex)
    | mat rs =>
      obtain ⟨a', bs, ea', h1, h2⟩ := hc
      rw [ea] at ea'; cases ea'
      exact .lst ((inn a (by rw [ea]; simp)).trans h1) (rows_all ex h2 fun b hb => inn b (by rw [ea]; simp [hb]))
theorem W.unfrz {G2 : Hp} {A2 : Nat → List Addr} {cs2 : Cells} {H2 : Hp} (w : W G A cs fr H) (hm : cs[m]? = some (some c)) (w2 : W G2 A2 cs2 fr H2) (e : Ex (frzG G H (A m)) G2) (ea : A2 m = A m) (hm2 : cs2[m]? = some none) (hl : ∀ (j : Nat) (x : Cell), cs2[j]? = some (some x) → CLf x) :
    W (minG G2 (A m)) A2 (cs2.set m (some c)) fr H2 ∧ Ex G (minG G2 (A m)) ∧ ∀ {v : V} {d : PyData}, Dt G2 v d → Lf d → Dt (minG G2 (A m)) v d := by
  obtain ⟨_, exG, _⟩ := w.frz hm
  have inH : ∀ b ∈ A m, H2 b = H b := fun b hb => by
    obtain ⟨o, ho⟩ := (w.cell m c hm).live b hb
    have q : frzG G H (A m) b = some o := (if_pos hb).trans ho
    rw [w2.gh b o (e b o q), ho]
  have inG : ∀ b ∈ A m, G2 b = H b := fun b hb => by
    obtain ⟨o, ho⟩ := (w.cell m c hm).live b hb
    rw [e b o ((if_pos hb).trans ho), ho]
  have lstm : ∀ b ∈ A m, ∃ vs, H b = some (.lst vs) := fun b hb => by
    have hc := w.cell m c hm
    cases c with
    | lst xs =>
      obtain ⟨a', vs, ea', h1, h2⟩ := hc
      rw [ea'] at hb; simp at hb; subst hb
      exact ⟨_, h1⟩
    | mat rs =>
      obtain ⟨a', bs, ea', h1, h2⟩ := hc
      rw [ea'] at hb
      rcases List.mem_cons.mp hb with rfl | hb
      · exact ⟨_, h1⟩
      · exact h2.live b hb
  have tup : ∀ b vs, G2 b = some (.tup vs) → minG G2 (A m) b = some (.tup vs) := fun b vs q => by
    unfold minG
    rw [if_neg (fun hb => by
      obtain ⟨us, hu⟩ := lstm b hb
      rw [inG b hb, hu] at q
      cases q)]
    exact q
  have exm : Ex G (minG G2 (A m)) := fun b o q => by
    unfold minG
    rw [if_neg (fun hb => by rw [(w.own m c hm b hb).1] at q; cases q)]
    exact e b o (exG b o q)
  have le : ∀ b o, minG G2 (A m) b = some o → G2 b = some o := fun b o q => by
    unfold minG at q
    split at q
    · cases q
    · exact q
  have g : ∀ (i : Nat) (d : Cell), (cs2.set m (some c))[i]? = some (some d) → (i = m ∧ d = c) ∨ (i ≠ m ∧ cs2[i]? = some (some d)) := fun i d q => by
    rcases set_get q with ⟨h1, _, z⟩ | h
    · cases z; exact .inl ⟨h1, rfl⟩
    · exact .inr h
  have far : ∀ j d, cs2[j]? = some (some d) → ∀ a ∈ A2 j, a ∉ A m := fun j d q a ha hb => by
    obtain ⟨o, ho⟩ := (w.cell m c hm).live a hb
    have := (w2.own j d q a ha).1
    rw [inG a hb, ho] at this
    cases this
  refine ⟨⟨fun b o q => w2.gh b o (le b o q), w2.fh, fun b o q => ?_, fun j d q => ?_, fun j d q => ?_, fun j d q a ha => ?_, fun i j d d' ne q1 q2 => ?_⟩, exm, fun h l => h.drop tup l⟩
  · unfold minG
    split
    · rfl
    · exact w2.gf b o q
  · rcases g j d q with ⟨rfl, rfl⟩ | ⟨hj, q⟩
    · rw [ea]; exact (w.cell _ _ hm).mono exm fun b hb o ho => (inH b hb).trans ho
    · exact (w2.cell j d q).drop tup (hl j d q)
  · rcases g j d q with ⟨rfl, rfl⟩ | ⟨hj, q⟩
    · rw [ea]; exact w.nd _ _ hm
    · exact w2.nd j d q
  · rcases g j d q with ⟨rfl, rfl⟩ | ⟨hj, q⟩
    · rw [ea] at ha
      exact ⟨if_pos ha, (w.own _ _ hm a ha).2⟩
    · refine ⟨?_, (w2.own j d q a ha).2⟩
      unfold minG
      split
      · rfl
      · exact (w2.own j d q a ha).1
  · rcases g i d q1 with ⟨hi, _⟩ | ⟨hi, q1'⟩
    · rcases g j d' q2 with ⟨hj, _⟩ | ⟨hj, q2'⟩
      · exact absurd (hi.trans hj.symm) ne
      · intro a ha hb
        rw [hi, ea] at ha
        exact far j d' q2' a hb ha
    · rcases g j d' q2 with ⟨hj, _⟩ | ⟨hj, q2'⟩
      · intro a ha hb
        rw [hj, ea] at hb
        exact far i d q1' a ha hb
      · exact w2.apart i j d d' ne q1' q2'
end
/-- the names, when the cell m is laid open -/
def FrzDs (ds ds' : Slots) (m : Nat) (d : PyData) : Prop := ds'.length = ds.length ∧ ∀ (i : Nat) (sv : SV), ds'[i]? = some (some sv) → ds[i]? = some (some sv) ∨ (ds[i]? = some (some (.own m)) ∧ sv = .d d)
theorem Sl.frz {K : PySem.W.Frag} {G G' : Hp} {A : Nat → List Addr} {n : Nat} {σ : L2.St} {ds ds' : Slots} {m : Nat} {d : PyData} (h : Sl K G A n σ ds) (e : Ex G G') (k : FrzDs ds ds' m d) (hd : ∀ a l, A m = a :: l → Dt G' (.ref a) d) : Sl K G' A n σ ds' :=
  ⟨h.len.trans k.1.symm, fun i sv q => by
    rcases k.2 i sv q with q1 | ⟨q1, rfl⟩
    · obtain ⟨v, h1, h2⟩ := h.get i sv q1
      exact ⟨v, h1, h2.mono e (AEx.refl _ _) (Nat.le_refl _)⟩
    · obtain ⟨v, h1, h2⟩ := h.get i (.own m) q1
      obtain ⟨_, a, l, ea, rfl⟩ := h2
      exact ⟨_, h1, hd a l ea⟩⟩
section
variable {X : Cx} {e elt tg iter : Expr} {sts : List Stmt} {ds ds' : Slots} {cs : Cells} {R R' : Cells → SV → Prop} {P : DE} {m : Nat} {c : Cell}
/-- for good, ahead of statements -/
theorem sd_freeze (m : Nat) (c : Cell) (hm : cs[m]? = some (some c)) (hd : FrzDs ds ds' m c.data) (k : SD X ds' (cs.set m none) sts P) : SD X ds cs sts P :=
  pss_imp k fun D σ H ⟨G, A, fr, w, sl, g⟩ => by
    obtain ⟨w', ex, hdt⟩ := w.frz hm
    exact ⟨_, A, fr, w', by rw [List.length_set]; exact sl.frz ex hd hdt, by rw [List.length_set]; exact g.step ex (AEx.refl _ _) (Nat.le_refl _)⟩
theorem pd_freeze (m : Nat) (c : Cell) (hm : cs[m]? = some (some c)) (hd : FrzDs ds ds' m c.data) (k : PD X ds' (cs.set m none) e R) : PD X ds cs e R :=
  pe_imp k fun σ H Q ⟨G, A, fr, w, sl, g⟩ => by
    obtain ⟨w', ex, hdt⟩ := w.frz hm
    exact ⟨_, A, fr, w', by rw [List.length_set]; exact sl.frz ex hd hdt, by rw [List.length_set]; exact g.step ex (AEx.refl _ _) (Nat.le_refl _)⟩
/-- for one expression: its answer and the cells hold no lists -/
theorem pd_frz (m : Nat) (c : Cell) (hm : cs[m]? = some (some c)) (hd : FrzDs ds ds' m c.data) (he : PD X ds' (cs.set m none) e R') (k : ∀ cs' sv, R' cs' sv → ∃ d, sv = .d d ∧ Lf d ∧ cs'[m]? = some none ∧ (∀ (j : Nat) x, cs'[j]? = some (some x) → CLf x) ∧ R (cs'.set m (some c)) (.d d)) : PD X ds cs e R :=
  pe_imp he fun σ H Q ⟨G, A, fr, w, sl, g⟩ => by
    obtain ⟨w', ex, hdt⟩ := w.frz hm
    refine ⟨_, A, fr, w', by rw [List.length_set]; exact sl.frz ex hd hdt, fun v sv cs2 G2 A2 H2 r e2 a2 l2 w2 ok2 => ?_⟩
    obtain ⟨d, rfl, hl, hm2, hc, hR⟩ := k cs2 sv r
    rw [List.length_set] at a2 l2
    have hml : m < cs.length := (List.getElem?_eq_some_iff.mp hm).1
    obtain ⟨w3, e3, hv⟩ := w.unfrz hm w2 e2 (a2 m hml) hm2 hc
    exact g v (.d d) _ _ A2 H2 hR e3 a2 (by rw [List.length_set]; exact l2) w3 (hv ok2 hl)
theorem pv_frz {d : PyData} (m : Nat) (c : Cell) (hm : cs[m]? = some (some c)) (hd : FrzDs ds ds' m c.data) (he : PV X ds' (cs.set m none) e (.d d)) (hl : Lf d) (hc : ∀ (j : Nat) x, cs[j]? = some (some x) → CLf x) : PV X ds cs e (.d d) :=
  pd_frz m c hm hd he fun cs' sv ⟨h1, h2⟩ => by
    have hml : m < cs.length := (List.getElem?_eq_some_iff.mp hm).1
    refine ⟨d, h2, hl, by rw [h1, List.getElem?_set_self hml], fun j x q => ?_, ?_, rfl⟩
    · rw [h1] at q
      rcases set_get q with ⟨_, _, z⟩ | ⟨_, q⟩
      · cases z
      · exact hc j x q
    · show (cs'.set m (some c)) = cs
      rw [h1, List.set_set]
      apply List.ext_getElem?
      intro i
      by_cases hi : m = i
      · subst hi
        rw [List.getElem?_set_self hml, hm]
      · rw [List.getElem?_set_ne hi]
end
/-- a def whose own cells are dropped at its end -/
theorem fn_defT {P : Program} {w : World} {K : PySem.W.Frag} {mg : Str → Option Value} {base : Heap} {x qual : Str} {st : Stmt} {f : Addr} {fd : FuncData} {N ps : List Str} {k : Nat} {Sp : Spec} (F : Fun K x qual st f fd) (S : FnScope N ps (defScope st)) (hlen : ∀ xs cs R, Sp xs cs R → xs.length = ps.length)
    (hbody : ∀ (cdv : Value) (A : Around) (outer : List Env) (s : Shared) (H : Hp) (E : XK) (xs : List SV) (cs : Cells) (R : Cells → SV → Prop), Room k (A.deeper (envOfC qual (defScope st) s.heap.objs.size f cdv)) → Sp xs cs R →
      SD (bodyX P w K mg base N qual (defScope st) f cdv A outer s H E) (startD N xs) cs (defBody st) { nx := fun _ cs' => R (cs'.take cs.length) (.d .none), rt := fun sv cs' => noOwn sv ∧ R (cs'.take cs.length) sv }) : FnOk P w K mg base CX0 (k + 1) f fd ps (spD K Sp) := by
  refine F.ok S (fun vs H Q E ⟨G, A, fr, cs, xs, R, h1, _, h2, _⟩ => by rw [h2.length]; exact hlen xs cs R h1) (fun cdv A outer s H vs Q E hr ⟨G, A', fr, cs, xs, R, h1, h2, h3, h4⟩ => ?_)
  refine ⟨_, hbody cdv A outer s H E xs cs R hr h1, G, A', fr, h2, sl_start h3, ⟨?_, ?_, fun _ _ _ _ _ _ z => z.elim, fun _ _ _ _ _ _ z => z.elim⟩⟩
  · exact fun ds' cs' G2 A2 σ2 H2 r e a l w2 _ => h4 .non (.d .none) _ G2 A2 H2 r e a (by rw [List.length_take]; omega) w2.take .non
  · exact fun v sv cs' G2 A2 H2 ⟨r1, r2⟩ e a l w2 ok => h4 v sv _ G2 A2 H2 r2 e a (by rw [List.length_take]; omega) w2.take (ok.noOwn r1)
end DL
set_option Elab.async false
set_option linter.all false
set_option maxRecDepth 100000
set_option maxHeartbeats 2000000
/-! DL9: comprehensions of two clauses over data. -/
namespace DL
open PySem PySem.Spec PyProof.Rows L2

section
variable {X : Cx} {elt tg iter tg1 iter1 : Expr} {ifs1 : List Expr} {scope : Scope} {own : List (Str × Nat)} {pos : Pos} {ds : Slots} {cs : Cells} {xs : List PyData} {g g1 : TG} {js js1 vs1 : List Nat} {f f1 : Slots → PyData → Option Slots}
variable {ys : PyData → List PyData} {p : PyData → PyData → Bool} {h : PyData → PyData → PyData}
/-- what the items of both clauses ask -/
def Lc2Each (X : Cx) (elt tg1 iter1 : Expr) (ifs1 : List Expr) (scope : Scope) (vs vs1 : List Nat) (ds : Slots) (cs : Cells) (xs : List PyData) (f f1 : Slots → PyData → Option Slots) (ys : PyData → List PyData) (p : PyData → PyData → Bool) (h : PyData → PyData → PyData) : Prop :=
  ∀ x ∈ xs, ∃ ds1, f (wipeD ds vs) x = some ds1 ∧ (Blk X scope fun X' => PVI X' ds1 cs tg1 iter1 (ys x)) ∧ ∀ y ∈ ys x, ∃ ds2, f1 (wipeD ds1 vs1) y = some ds2 ∧ (Blk X scope fun X' => PVTs X' ds2 cs ifs1 (Is cs (p x y))) ∧ (p x y = true → Blk X scope fun X' => PV X' ds2 cs elt (.d (h x y)))
def lc2F (ys : PyData → List PyData) (p : PyData → PyData → Bool) (h : PyData → PyData → PyData) (x : PyData) : List PyData := ((ys x).filter (p x)).map (h x)
theorem flat_take {F : PyData → List PyData} {i : Nat} {x : PyData} (q : xs[i]? = some x) : (xs.take (i + 1)).flatMap F = (xs.take i).flatMap F ++ F x := by
  rw [List.take_add_one, q]; simp
theorem flat_le {F : PyData → List PyData} (i : Nat) : ((xs.take i).flatMap F).length ≤ (xs.flatMap F).length := by
  have e : xs.flatMap F = (xs.take i).flatMap F ++ (xs.drop i).flatMap F := by rw [← List.flatMap_append, List.take_append_drop]
  rw [e, List.length_append]; omega
abbrev l2I (K : PySem.W.Frag) (vs : List Nat) (ds : Slots) (cs : Cells) (xs : List PyData) (f : Slots → PyData → Option Slots) (ys : PyData → List PyData) : TI :=
  fun σ H R => ∃ q : Slots × List PyData, (∃ x, x ∈ xs ∧ f (wipeD ds vs) x = some q.1 ∧ q.2 = ys x) ∧ tDI K q.1 cs q.2 σ H R
abbrev l2T (K : PySem.W.Frag) (vs vs1 : List Nat) (ds : Slots) (cs : Cells) (xs : List PyData) (f f1 : Slots → PyData → Option Slots) (ys : PyData → List PyData) (p : PyData → PyData → Bool) : TT :=
  fun σ H Q => ∃ q : Slots × Bool, (∃ x ds1 y, x ∈ xs ∧ f (wipeD ds vs) x = some ds1 ∧ y ∈ ys x ∧ f1 (wipeD ds1 vs1) y = some q.1 ∧ q.2 = p x y) ∧ tDB K q.1 cs (Is cs q.2) σ H Q
abbrev l2E (K : PySem.W.Frag) (vs vs1 : List Nat) (ds : Slots) (cs : Cells) (xs : List PyData) (f f1 : Slots → PyData → Option Slots) (ys : PyData → List PyData) (p : PyData → PyData → Bool) (h : PyData → PyData → PyData) : TE :=
  fun σ H Q => ∃ q : Slots × PyData, (∃ x ds1 y, x ∈ xs ∧ f (wipeD ds vs) x = some ds1 ∧ y ∈ ys x ∧ f1 (wipeD ds1 vs1) y = some q.1 ∧ p x y = true ∧ q.2 = h x y) ∧ tD K q.1 cs (Is cs (.d q.2)) σ H Q
theorem lc2_red {vs : List Nat} {R : Cells → SV → Prop} (gd : GD X.K g js f) (hj : ∀ j ∈ js, j ∈ vs) (gd1 : GD X.K g1 js1 f1) (hj1 : ∀ j ∈ js1, j ∈ vs1) (e : Lc2Each X elt tg1 iter1 ifs1 scope vs vs1 ds cs xs f f1 ys p h)
    (hz : (xs.flatMap (lc2F ys p h)).length ≤ 1000000) (hR : R cs (.d (.list (xs.flatMap (lc2F ys p h))))) {σ : L2.St} {H : Hp} {Q : VK} (hh : tD X.K ds cs R σ H Q) :
    tLc2 (tDI X.K ds cs xs) g tYes (l2I X.K vs ds cs xs f ys) g1 (l2T X.K vs vs1 ds cs xs f f1 ys p) (l2E X.K vs vs1 ds cs xs f f1 ys p h) vs vs1 σ H Q := by
  have szl : (1000000 : Nat) < sizeLine := by decide
  obtain ⟨G, A, fr, w, sl, go⟩ := hh
  refine ⟨G, A, fr, w, sl, fun J H1 G1 A1 e1 a1 w1 it D hD => ?_⟩
  have fD : fr D = none := w1.fh.fresh hD
  have gD : G1 D = none := w1.gh.fresh hD
  let Pw : List PyData → Hp → Prop := fun acc H' => ∃ G' A' us, Ex G1 G' ∧ AEx cs.length A1 A' ∧ W G' A' cs fr H' ∧ H' D = some (.lst us) ∧ DtAll G' us acc ∧ G' D = none ∧ (∀ k c, cs[k]? = some (some c) → D ∉ A' k)
  let F := lc2F ys p h
  refine ⟨fun i m H' => m = xs.length - i ∧ i ≤ xs.length ∧ Pw ((xs.take i).flatMap F) H', ⟨xs.length, by simp, Nat.zero_le _, G1, A1, [], Ex.refl _, AEx.refl _ _, w1.side gD fD (fun k c q => w1.fresh_own hD q), upd_same, by simp; exact .nil, gD, fun k c q => w1.fresh_own hD q⟩, ?_⟩
  rintro i m H2 ⟨rfl, hi2, G2, A2, us, e2, a2, w2, hH, hall, g2, n2⟩
  have eG : Ex G1 H2 := e2.trans w2.gh
  by_cases hlt : i < xs.length
  · refine .inr ⟨it.go i H2 eG hlt, fun H' => Pw ((xs.take (i + 1)).flatMap F) H', fun H' q => ⟨xs.length - (i + 1), by omega, rfl, hlt, q⟩, fun x H3 hy => ?_⟩
    obtain ⟨y, hy2⟩ : ∃ y, xs[i]? = some y := ⟨xs[i], by simp [hlt]⟩
    have ymem : y ∈ xs := List.mem_of_getElem? hy2
    obtain ⟨ds1, hf, _, hin⟩ := e y ymem
    obtain ⟨G3, e3, w3, okx, hH3, g3⟩ : ∃ G3, Ex G2 G3 ∧ W G3 A2 cs fr H3 ∧ Dt G3 x y ∧ H3 D = some (.lst us) ∧ G3 D = none := by
      rcases it.yld i H2 x H3 eG hy y hy2 with ⟨h1, h2⟩ | ⟨T0, ws, es, h1, h2, h3, h4, h5⟩
      · exact ⟨G2, Ex.refl _, by rw [h1]; exact w2, h2.mono e2, by rw [h1]; exact hH, g2⟩
      · obtain ⟨w', ex⟩ := w2.new (o := .tup ws) h2
        have ne : D ≠ T0 := ne_of_none hH h2
        refine ⟨upd G2 T0 (.tup ws), ex, by rw [h3]; exact w', ?_, by rw [h3, upd_ne ne]; exact hH, by rw [upd_ne ne]; exact g2⟩
        rw [h1, h5]
        exact .tup upd_same ((h4.mono e2).mono ex)
    have slw : Sl X.K G3 A2 cs.length (L2.wipe σ vs) (wipeD ds vs) := (sl.mono (e1.trans (e2.trans e3)) (a1.trans a2 (Nat.le_refl _)) (Nat.le_refl _)).wipe _
    refine gd x y _ H3 _ _ ds1 G3 A2 cs.length slw w3.gh okx hf fun σ2 sl2 so => ⟨by rw [wipe_off so hj, wipe_wipe], ?_⟩
    unfold tYes
    dsimp only
    rw [if_pos rfl]
    -- the second clause
    have wg := w3.guard hH3 g3 fD n2
    refine ⟨(ds1, ys y), ⟨y, ymem, hf, rfl⟩, G3, A2, upd fr D (.lst us), wg, sl2, fun J1 H4 G4 A4 e4 a4 w4 it1 => ?_⟩
    obtain ⟨w4', hH4, g4, n4⟩ := w4.unguard fD
    refine ⟨fun j m H' => m = (ys y).length - j ∧ j ≤ (ys y).length ∧ Ex G4 H' ∧ ∃ G' A' us, Ex G4 G' ∧ AEx cs.length A4 A' ∧ W G' A' cs fr H' ∧ H' D = some (.lst us) ∧ DtAll G' us ((xs.take i).flatMap F ++ (((ys y).take j).filter (p y)).map (h y)) ∧ G' D = none ∧ (∀ k c, cs[k]? = some (some c) → D ∉ A' k),
      ⟨(ys y).length, by simp, Nat.zero_le _, w4.gh, G4, A4, us, Ex.refl _, AEx.refl _ _, w4', hH4, by simp; exact hall.mono (e3.trans e4), g4, n4⟩, ?_⟩
    rintro j m H5 ⟨rfl, hj2, eJ, G5, A5, us5, e5, a5, w5, hH5, hall5, g5, n5⟩
    by_cases hjl : j < (ys y).length
    · refine .inr ⟨it1.go j H5 eJ hjl, fun H' => Ex G4 H' ∧ ∃ G' A' us, Ex G4 G' ∧ AEx cs.length A4 A' ∧ W G' A' cs fr H' ∧ H' D = some (.lst us) ∧ DtAll G' us ((xs.take i).flatMap F ++ (((ys y).take (j + 1)).filter (p y)).map (h y)) ∧ G' D = none ∧ (∀ k c, cs[k]? = some (some c) → D ∉ A' k), fun H' q => ⟨(ys y).length - (j + 1), by omega, rfl, hjl, q⟩, fun x1 H6 hy1 => ?_⟩
      obtain ⟨z, hz1⟩ : ∃ z, (ys y)[j]? = some z := ⟨(ys y)[j], by simp [hjl]⟩
      have zmem : z ∈ ys y := List.mem_of_getElem? hz1
      obtain ⟨ds2, hf1, _, _⟩ := hin z zmem
      obtain ⟨G6, e6, w6, okz, hH6, g6⟩ : ∃ G6, Ex G5 G6 ∧ W G6 A5 cs fr H6 ∧ Dt G6 x1 z ∧ H6 D = some (.lst us5) ∧ G6 D = none := by
        rcases it1.yld j H5 x1 H6 eJ hy1 z hz1 with ⟨h1, h2⟩ | ⟨T0, ws, es, h1, h2, h3, h4, h5⟩
        · exact ⟨G5, Ex.refl _, by rw [h1]; exact w5, h2.mono e5, by rw [h1]; exact hH5, g5⟩
        · obtain ⟨w', ex⟩ := w5.new (o := .tup ws) h2
          have ne : D ≠ T0 := ne_of_none hH5 h2
          refine ⟨upd G5 T0 (.tup ws), ex, by rw [h3]; exact w', ?_, by rw [h3, upd_ne ne]; exact hH5, by rw [upd_ne ne]; exact g5⟩
          rw [h1, h5]
          exact .tup upd_same ((h4.mono e5).mono ex)
      have slw1 : Sl X.K G6 A5 cs.length (L2.wipe σ2 vs1) (wipeD ds1 vs1) := (sl2.mono (e4.trans (e5.trans e6)) (a4.trans a5 (Nat.le_refl _)) (Nat.le_refl _)).wipe _
      refine gd1 x1 z _ H6 _ _ ds2 G6 A5 cs.length slw1 w6.gh okz hf1 fun σ3 sl3 so1 => ⟨by rw [wipe_off so1 hj1, wipe_wipe], ?_⟩
      have wg6 := w6.guard hH6 g6 fD n5
      refine ⟨(ds2, p y z), ⟨y, ds1, z, ymem, hf, zmem, hf1, rfl⟩, G6, A5, upd fr D (.lst us5), wg6, sl3, fun b cs7 G7 A7 H7 ⟨r1, r2⟩ e7 a7 l7 w7 => ?_⟩
      have r1' : cs7 = cs := r1
      have r2' : b = p y z := r2
      subst r1' r2'
      obtain ⟨w7', hH7, g7, n7⟩ := w7.unguard fD
      have stepj := take_succ_filter (p y) (h y) hz1
      cases hb : p y z with
      | false =>
        refine iteF ⟨(e5.trans (e6.trans e7)).trans w7.gh, G7, A7, us5, e5.trans (e6.trans e7), a5.trans a7 (Nat.le_refl _), w7', hH7, ?_, g7, n7⟩
        rw [stepj, hb]
        simpa using hall5.mono (e6.trans e7)
      | true =>
        refine iteT ⟨(ds2, h y z), ⟨y, ds1, z, ymem, hf, zmem, hf1, hb, rfl⟩, G7, A7, upd fr D (.lst us5), w7, sl3.mono e7 a7 l7, fun v sv cs8 G8 A8 H8 ⟨r3, r4⟩ e8 a8 l8 w8 ok8 => ?_⟩
        have r3' : cs8 = cs7 := r3
        have r4' : sv = .d (h y z) := r4
        subst r3' r4'
        obtain ⟨w8', hH8, g8, n8⟩ := w8.unguard fD
        have hlen : us5.length < sizeLine := by
          rw [hall5.length]
          have q1 : ((xs.take (i + 1)).flatMap F).length ≤ 1000000 := Nat.le_trans (flat_le _) hz
          rw [flat_take hy2, List.length_append] at q1
          have q2 : ((((ys y).take j).filter (p y)).map (h y)).length ≤ (F y).length := by
            show _ ≤ (((ys y).filter (p y)).map (h y)).length
            rw [List.length_map, List.length_map]
            exact List.Sublist.length_le ((List.take_sublist _ _).filter _)
          rw [List.length_append]
          omega
        refine ⟨us5, hH8, hlen, ((e5.trans (e6.trans (e7.trans e8))).trans w8.gh).mut (by
          have q := e4.fresh (e5.fresh g5); exact e5.fresh g5), G8, A8, us5 ++ [v], e5.trans (e6.trans (e7.trans e8)), (a5.trans a7 (Nat.le_refl _)).trans a8 (Nat.le_refl _), w8'.side g8 fD n8, upd_same, ?_, g8, n8⟩
        rw [stepj, hb, if_pos rfl, ← List.append_assoc]
        exact (hall5.mono (e6.trans (e7.trans e8))).append (.cons ok8 .nil)
    · have ej : j = (ys y).length := by omega
      subst ej
      refine .inl ⟨it1.stop _ H5 eJ (Nat.le_refl _), G5, A5, us5, e2.trans (e3.trans (e4.trans e5)), (a2.trans a4 (Nat.le_refl _)).trans a5 (Nat.le_refl _), w5, hH5, ?_, g5, n5⟩
      rw [flat_take hy2]
      rw [List.take_length] at hall5
      exact hall5
  · have ei : i = xs.length := by omega
    subst ei
    refine .inl ⟨it.stop _ H2 eG (Nat.le_refl _), ?_⟩
    obtain ⟨w3, e3⟩ := w2.lay hH g2 fD n2
    rw [List.take_length] at hall
    exact go _ _ cs _ A2 H2 hR (e1.trans (e2.trans e3)) (a1.trans a2 (Nat.le_refl _)) (Nat.le_refl _) w3 (.lst upd_same (hall.mono e3))
theorem Lc2Each.pi {vs : List Nat} (e : Lc2Each X elt tg1 iter1 ifs1 scope vs vs1 ds cs xs f f1 ys p h) : Blk X scope fun X' => PI X' tg1 iter1 (l2I X.K vs ds cs xs f ys) := fun s H C cl fp =>
  pi_any (ι := Slots × List PyData) (t := fun q => tDI X.K q.1 cs q.2) (P := fun q => ∃ x, x ∈ xs ∧ f (wipeD ds vs) x = some q.1 ∧ q.2 = ys x) fun q ⟨x, h1, h2, h3⟩ => by
    obtain ⟨ds1, k1, k2, _⟩ := e x h1
    rw [h2] at k1
    cases k1
    rw [h3]
    exact k2 s H C cl fp
theorem Lc2Each.pt {vs : List Nat} (e : Lc2Each X elt tg1 iter1 ifs1 scope vs vs1 ds cs xs f f1 ys p h) : Blk X scope fun X' => PTs X' ifs1 (l2T X.K vs vs1 ds cs xs f f1 ys p) := fun s H C cl fp =>
  pts_any (ι := Slots × Bool) (t := fun q => tDB X.K q.1 cs (Is cs q.2)) (P := fun q => ∃ x ds1 y, x ∈ xs ∧ f (wipeD ds vs) x = some ds1 ∧ y ∈ ys x ∧ f1 (wipeD ds1 vs1) y = some q.1 ∧ q.2 = p x y) fun q ⟨x, ds1, y, h1, h2, h3, h4, h5⟩ => by
    obtain ⟨ds1', k1, _, k2⟩ := e x h1
    rw [h2] at k1
    cases k1
    obtain ⟨ds2, k3, k4, _⟩ := k2 y h3
    rw [h4] at k3
    cases k3
    rw [h5]
    exact k4 s H C cl fp
theorem Lc2Each.pe {vs : List Nat} (e : Lc2Each X elt tg1 iter1 ifs1 scope vs vs1 ds cs xs f f1 ys p h) : Blk X scope fun X' => PE X' elt (l2E X.K vs vs1 ds cs xs f f1 ys p h) := fun s H C cl fp =>
  pe_any (ι := Slots × PyData) (t := fun q => tD X.K q.1 cs (Is cs (.d q.2))) (P := fun q => ∃ x ds1 y, x ∈ xs ∧ f (wipeD ds vs) x = some ds1 ∧ y ∈ ys x ∧ f1 (wipeD ds1 vs1) y = some q.1 ∧ p x y = true ∧ q.2 = h x y) fun q ⟨x, ds1, y, h1, h2, h3, h4, h5, h6⟩ => by
    obtain ⟨ds1', k1, _, k2⟩ := e x h1
    rw [h2] at k1
    cases k1
    obtain ⟨ds2, k3, _, k4⟩ := k2 y h3
    rw [h4] at k3
    cases k3
    rw [h6]
    exact k4 h5 s H C cl fp
/-- [elt for tg in iter for tg1 in iter1 if ..] -/
theorem pv_lc2 (hi : PVI X ds cs tg iter xs) (ok : BlkOk X.N X.env.scope scope own) (hv : ∀ i ∈ vs1, i ∈ own.map (·.2)) (hg : Blk X scope fun X' => PG X' tg g) (gd : GD X.K g js f) (hj : ∀ j ∈ js, j ∈ own.map (·.2)) (hg1 : Blk X scope fun X' => PG X' tg1 g1) (gd1 : GD X.K g1 js1 f1) (hj1 : ∀ j ∈ js1, j ∈ vs1)
    (e : Lc2Each X elt tg1 iter1 ifs1 scope (own.map (·.2)) vs1 ds cs xs f f1 ys p h) (hz : (xs.flatMap (lc2F ys p h)).length ≤ 1000000) (hN : X.N.Nodup) (hc : X.calm = true := by rfl)
    (hs : ∀ x, foldedSetIterable iter X.env x = pure x := by intro _; rfl) (hs1 : ∀ env x, foldedSetIterable iter1 env x = pure x := by intro _ _; rfl) : PV X ds cs (.ListComp elt [⟨tg, iter, [], 0⟩, ⟨tg1, iter1, ifs1, 0⟩] scope pos) (.d (.list (xs.flatMap (lc2F ys p h)))) :=
  pe_imp (pe_lc2 hc hN hi ok hv hg (fun _ _ _ _ _ => pts_nil) e.pi hg1 e.pt e.pe hs hs1) fun σ H Q hh => lc2_red gd hj gd1 hj1 e hz ⟨rfl, rfl⟩ hh
theorem sd_asgLc2 {x : Str} {p1 lp : Pos} {rest : List Stmt} {P : DE} (i : Nat) (hi : PVI X ds cs tg iter xs) (ok : BlkOk X.N X.env.scope scope own) (hv : ∀ i ∈ vs1, i ∈ own.map (·.2)) (hg : Blk X scope fun X' => PG X' tg g) (gd : GD X.K g js f) (hj : ∀ j ∈ js, j ∈ own.map (·.2)) (hg1 : Blk X scope fun X' => PG X' tg1 g1) (gd1 : GD X.K g1 js1 f1) (hj1 : ∀ j ∈ js1, j ∈ vs1)
    (e : Lc2Each X elt tg1 iter1 ifs1 scope (own.map (·.2)) vs1 ds cs xs f f1 ys p h) (hz : (xs.flatMap (lc2F ys p h)).length ≤ 1000000) (k : SD X (ds.set i (some (.d (.list (xs.flatMap (lc2F ys p h)))))) cs rest P) (hN : X.N.Nodup) (hy : X.N[i]? = some x := by rfl) (hyl : X.env.scope.names.lookup x = some .local := by rfl)
    (hsw : swapsWith (.ListComp elt [⟨tg, iter, [], 0⟩, ⟨tg1, iter1, ifs1, 0⟩] scope lp) (some (.Name x p1)) pos.line X.env = pure true := by exact sw_true rfl rfl rfl (by decide +kernel)) (hc : X.calm = true := by rfl)
    (hs : ∀ x, foldedSetIterable iter X.env x = pure x := by intro _; rfl) (hs1 : ∀ env x, foldedSetIterable iter1 env x = pure x := by intro _ _; rfl) : SD X ds cs (.Assign [.Name x p1] (.ListComp elt [⟨tg, iter, [], 0⟩, ⟨tg1, iter1, ifs1, 0⟩] scope lp) pos :: rest) P := by
  refine sd_cons (M := fun ds' cs' => cs' = cs ∧ ds' = ds.set i (some (.d (.list (xs.flatMap (lc2F ys p h)))))) (ps_imp (ps_setLc2 hc hN hy hyl hsw hi ok hv hg (fun _ _ _ _ _ => pts_nil) e.pi hg1 e.pt e.pe hs hs1) fun D σ H ⟨G, A, fr, w, sl, go⟩ => ?_) fun ds' cs' ⟨e1, e2⟩ => by rw [e1, e2]; exact k
  refine lc2_red (R := Is cs (.d (.list (xs.flatMap (lc2F ys p h))))) gd hj gd1 hj1 e hz ⟨rfl, rfl⟩ ⟨G, A, fr, w, sl, fun v sv cs1 G1 A1 H1 ⟨r1, r2⟩ e1 a1 l1 w1 ok1 => ?_⟩
  subst r1 r2
  exact go.nx _ _ _ _ _ _ ⟨rfl, rfl⟩ e1 a1 l1 w1 ((sl.mono e1 a1 l1).set i ok1)
end
end DL
set_option Elab.async false
set_option linter.all false
set_option maxRecDepth 100000
set_option maxHeartbeats 2000000
/-! DLZ: zip(*t) walked by one name; enumerate of a tuple. -/
namespace DLZ
open PySem PySem.Spec PyProof.Rows L2
open Sem (wp)
abbrev IsTupV (h : Heap) (T : Addr) (vs : List Value) : Prop := h.get? T = some { cls := .type "tuple", data := .seq vs.toArray }
/-- one thing that is zipped: its iterator, itself, its items -/
structure ZC where
  it : Addr
  tup : Addr
  vs : List Value
def ItAll (h : Heap) (cols : List ZC) (k : Nat) : Prop := ∀ c ∈ cols, h.IsTupleIter c.it c.tup k ∧ h.IsTuple c.tup c.vs.toArray
abbrev its (cols : List ZC) : List Addr := cols.map (·.it)
abbrev refs (cols : List ZC) : List Value := cols.map fun c => .ref c.it
def valsAt (cols : List ZC) (k : Nat) : List Value := cols.map fun c => c.vs.getD k .none
structure ZSep (z TI TO : Addr) (cols : List ZC) : Prop where
  nd : (its cols).Nodup
  zi : z ∉ its cols
  ti : TI ∉ its cols
  to : TO ∉ its cols
  tup : ∀ c ∈ cols, c.tup ∉ its cols ∧ c.tup ≠ z ∧ c.tup ≠ TO
  TIz : TI ≠ z
  TOz : TO ≠ z
  TITO : TI ≠ TO
section
variable {prog : Program} {w : World} {A : Around} {E : Value → Shared → Prop} {s : Shared} {z TI TO T : Addr} {f : Bool} {cols : List ZC} {k : Nat} {oT : Obj}
theorem itAll_but {h h' : Heap} {a : Addr} {cs : List ZC} (x : ItAll h cs k) (hs : Heap.SameBut a h h') (hn : ∀ c ∈ cs, c.it ≠ a ∧ c.tup ≠ a) : ItAll h' cs k := fun c hc =>
  ⟨(x c hc).1.at fun o e => hs.extBut _ _ (hn c hc).1 e, (x c hc).2.at fun o e => hs.extBut _ _ (hn c hc).2 e⟩

abbrev IsZipF (h : Heap) (z TI TO : Addr) (f0 : Value) (f : Bool) : Prop :=
  h.get? z = some { cls := .type "zip", dict := none, data := .fields #[f0, .bool f, .bool false, .ref TI, .ref TO], slots := #[] }
def OwnOk (f0 : Value) : Prop := f0 = .none ∨ ∃ T : Nat, f0 = rawInt T
theorem zip_own {f0 : Value} {Q : Bool → Shared → Prop} (hz : IsZipF s.heap z TI TO f0 f) (ho : OwnOk f0) (h1 : Q true s) (h2 : ∀ h', IsZipF h' z TI TO f0 true → Heap.SameBut z s.heap h' → Q false { s with heap := h' }) :
    wpAny (model prog w) A (Builtin.SmallTypes.ownedTupleIsFree (.ref z)) Q E s := by
  rcases ho with rfl | ⟨T, rfl⟩
  · unfold Builtin.SmallTypes.ownedTupleIsFree
    exact wpAny_bind (wpAny_field hz rfl (x := .none) rfl (wpAny_pure h1))
  · cases hT : s.heap.get? T with
    | some oT => exact wpAny_tupleHeld_zip hz hT h2
    | none =>
      unfold Builtin.SmallTypes.ownedTupleIsFree
      refine wpAny_bind (wpAny_field hz rfl (x := rawInt T) rfl ?_)
      show wpAny _ _ (loadIfAlive ((T : Int).toNat) >>= _) _ _ _
      rw [Int.toNat_natCast]
      have ha : wpAny (model prog w) A (loadIfAlive T) (fun r s' => r = none ∧ s' = s) E s := fun _ _ _ => ⟨hT, rfl⟩
      refine wpAny_bind (wpAny_mono ha (fun r s' hr => ?_) fun _ _ x => x)
      obtain ⟨rfl, rfl⟩ := hr
      exact wpAny_pure h1
theorem wpAny_updTup {vs : List Value} {x : Value} {j : Nat} {Q : Unit → Shared → Prop} (hT : IsTupV s.heap T vs) (hl : vs.length ≤ sizeLine)
    (h : ∀ h', IsTupV h' T (vs.set j x) → Heap.SameBut T s.heap h' → Q () { s with heap := h' }) :
    wpAny (model prog w) A (updateSeq T (·.setIfInBounds j x)) Q E s := by
  refine wpAny_updateSeq hT rfl (h _ ?_ (Heap.SameBut.update ..)) (by simpa using hl) (by simpa using Nat.le_succ_of_le hl)
  show Heap.get? _ T = _
  rw [Heap.get?_update_self _ hT rfl]
  simp [Obj.mapSeq]
theorem zip_item {f0 : Value} {olds : List Value} {Q : Value → Shared → Prop} (D : ZSep z TI TO cols) (hz : IsZipF s.heap z TI TO f0 f) (ho : OwnOk f0) (hTO : IsTupV s.heap TO olds) (hol : olds.length = cols.length) (hTI : IsTupV s.heap TI (refs cols)) (hne : cols ≠ []) (hi : ItAll s.heap cols k) (hk : ∀ c ∈ cols, k < c.vs.length) (hlen : cols.length ≤ 1000)
    (hQ : ∀ h' f0' f' olds', IsZipF h' z TI TO f0' f' → OwnOk f0' → IsTupV h' TO olds' → olds'.length = cols.length → IsTupV h' TI (refs cols) → ItAll h' cols (k + 1) → IsTupV h' s.heap.objs.size (valsAt cols k) → h'.objs.size = s.heap.objs.size + 1 →
      (∀ c o, c ≠ z → c ≠ TO → c ∉ its cols → s.heap.get? c = some o → h'.get? c = some o) → Q (.ref s.heap.objs.size) { s with heap := h' }) :
    wpAny (model prog w) A (Builtin.«zip.__next__» ⟨[.ref z], []⟩) (fun fin s' => ∃ v, fin = .done (.ret v) ∧ Q v s') E s := by
  show wpAny _ _ (field (.ref z) 2 >>= _) _ _ _
  refine wpAny_bind (wpAny_field hz rfl (x := .bool false) rfl ?_)
  show wpAny _ _ (field (.ref z) 3 >>= _) _ _ _
  refine wpAny_bind (wpAny_field hz rfl (x := .ref TI) rfl ?_)
  refine wpAny_bind (wpAny_seqItems hTI rfl ?_)
  dsimp only
  have he : (refs cols).toArray.isEmpty = false := by
    cases cols with
    | nil => exact absurd rfl hne
    | cons a b => rfl
  rw [if_neg (by rw [he]; exact Bool.false_ne_true)]
  show wpAny _ _ (Builtin.SmallTypes.ownedTupleIsFree (.ref z) >>= _) _ _ _
  refine wpAny_bind (zip_own hz ho ?_ fun h₁ hz₁ hs₁ => ?_)
  · simp only [if_true]
    refine wpAny_bind (wpAny_rule ?_)
    refine wpAny_bind (wpAny_field hz rfl (x := .ref TO) rfl ?_)
    refine wpAny_bind (wpAny_setField_rec hz (by simp) fun h₁ hz₁ hs₁ => ?_)
    replace hz₁ : IsZipF h₁ z TI TO .ellipsis f := hz₁
    refine wpAny_bind ?_
    have hi₁ : ItAll h₁ cols k := itAll_but hi hs₁ fun c hc => ⟨fun e => D.zi (List.mem_map.mpr ⟨c, hc, e⟩), (D.tup c hc).2.1⟩
    refine wpAny_forIn_list _ (fun rest b s' => ∃ dn td, cols = dn ++ td ∧ rest = (refs td).zipIdx dn.length ∧ b = (none, ()) ∧ ∃ h', s' = { s with heap := h' } ∧ ItAll h' dn (k + 1) ∧ ItAll h' td k ∧ h'.objs.size = h₁.objs.size ∧ IsTupV h' TO (valsAt dn k ++ olds.drop dn.length) ∧ ∀ b o, b ∉ its cols → b ≠ TO → h₁.get? b = some o → h'.get? b = some o) _ ?_ ?_ _ _
      ⟨[], cols, rfl, by simp [refs], rfl, h₁, rfl, fun c hc => (by simp at hc), hi₁, rfl, (by simpa [valsAt] using hs₁.extBut TO _ D.TOz hTO), fun _ _ _ _ e => e⟩
    · rintro x rest b s' ⟨dn, td, hcols, hrest, hb, h', rfl, i1, i2, hsz, hTO', hkp⟩
      cases td with
      | nil => simp [refs] at hrest
      | cons c td =>
        have hrest' : x = (.ref c.it, dn.length) ∧ rest = (refs td).zipIdx (dn.length + 1) := by simpa [refs] using hrest
        obtain ⟨rfl, rfl⟩ := hrest'
        subst hb
        have hc : c ∈ cols := by rw [hcols]; simp
        have nd := D.nd
        have hsplit : its cols = its dn ++ c.it :: its td := by rw [hcols]; simp [its]
        rw [hsplit] at nd
        have n1 : c.it ∉ its dn := fun hm => (List.nodup_append.mp nd).2.2 _ hm _ (by simp) rfl
        have n2 : c.it ∉ its td := (List.nodup_cons.mp (List.nodup_append.mp nd).2.1).1
        obtain ⟨q1, q2⟩ := i2 c (by simp)
        have hx : c.vs.toArray[k]? = some (c.vs.getD k .none) := by
          have := hk c hc
          simp [List.getD_eq_getElem?_getD, List.getElem?_eq_getElem this]
        have cTO : c.it ≠ TO := fun e => D.to (by rw [← e]; exact List.mem_map.mpr ⟨c, hc, rfl⟩)
        dsimp only
        refine wpAny_bind (wpAny_onRaise ?_)
        show wpAny _ _ (Builtin.SmallTypes.nextOf (.ref c.it) >>= _) _ _ _
        refine wpAny_bind (wpAny_nextOf_tuple_item (s := { s with heap := h' }) q1 q2 hx fun h'' hit hs => wpAny_pure ?_)
        have hTO₂ := hs.extBut TO _ (Ne.symm cTO) hTO'
        refine wpAny_bind (wpAny_seqItems hTO₂ rfl ?_)
        dsimp only
        refine wpAny_bind (wpAny_updTup hTO₂ (by simp [valsAt, hol]; have hcl : dn.length ≤ cols.length := (by rw [hcols]; simp); have := sizeLine_eq; omega) fun h₃ hTO₃ hs₃ => ?_)
        refine wpAny_bind (wpAny_letGo (wpAny_pure ?_))
        have hset : (valsAt dn k ++ olds.drop dn.length).set dn.length (c.vs.getD k .none) = valsAt (dn ++ [c]) k ++ olds.drop (dn ++ [c]).length := by
          have hlt : dn.length < olds.length := by rw [hol, hcols]; simp
          rw [List.set_append, if_neg (by simp [valsAt])]
          simp [valsAt]
          rw [List.drop_eq_getElem_cons hlt]
          rfl
        rw [hset] at hTO₃
        refine ⟨dn ++ [c], td, by rw [hcols]; simp, by simp, rfl, h₃, rfl, fun d hd => ?_, fun d hd => ?_, hs₃.1.trans (hs.1.trans hsz), hTO₃, fun b o hb hb2 e => hs₃.extBut b o hb2 (hs.extBut b o (fun e2 => hb (by rw [e2]; exact List.mem_map.mpr ⟨c, hc, rfl⟩)) (hkp b o hb hb2 e))⟩
        · have dc : d ∈ cols := by
            rw [hcols]
            rcases List.mem_append.mp hd with hd | hd
            · simp [hd]
            · simp at hd; simp [hd]
          have dTO : d.it ≠ TO := fun e => D.to (by rw [← e]; exact List.mem_map.mpr ⟨d, dc, rfl⟩)
          have key : h''.IsTupleIter d.it d.tup (k + 1) ∧ h''.IsTuple d.tup d.vs.toArray := by
            rcases List.mem_append.mp hd with hd | hd
            · exact ⟨(i1 d hd).1.at fun o e => hs.extBut _ _ (fun e2 => n1 (by rw [← e2]; exact List.mem_map.mpr ⟨d, hd, rfl⟩)) e, (i1 d hd).2.at fun o e => hs.extBut _ _ (fun e2 => (D.tup d dc).1 (by rw [e2]; exact List.mem_map.mpr ⟨c, hc, rfl⟩)) e⟩
            · have hd' : d = c := by simpa using hd
              subst hd'
              exact ⟨hit, q2.at fun o e => hs.extBut _ _ (fun e2 => (D.tup d hc).1 (by rw [e2]; exact List.mem_map.mpr ⟨d, hc, rfl⟩)) e⟩
          exact ⟨key.1.at fun o e => hs₃.extBut _ _ dTO e, key.2.at fun o e => hs₃.extBut _ _ (D.tup d dc).2.2 e⟩
        · have dc : d ∈ cols := by rw [hcols]; simp [hd]
          have dTO : d.it ≠ TO := fun e => D.to (by rw [← e]; exact List.mem_map.mpr ⟨d, dc, rfl⟩)
          have i2d := i2 d (by simp [hd])
          refine ⟨i2d.1.at fun o e => hs₃.extBut _ _ dTO (hs.extBut _ _ (fun e2 => n2 (by rw [← e2]; exact List.mem_map.mpr ⟨d, hd, rfl⟩)) e), i2d.2.at fun o e => hs₃.extBut _ _ (D.tup d dc).2.2 (hs.extBut _ _ (fun e2 => (D.tup d dc).1 (by rw [e2]; exact List.mem_map.mpr ⟨c, hc, rfl⟩)) e)⟩
    · rintro b s' ⟨dn, td, hcols, hrest, hb, h', rfl, i1, i2, hsz, hTO', hkp⟩
      have htd : td = [] := by
        cases td with
        | nil => rfl
        | cons c td => simp [refs] at hrest
      subst htd
      rw [List.append_nil] at hcols
      subst hcols hb
      have hTO2 : IsTupV h' TO (valsAt cols k) := by
        rw [List.drop_eq_nil_of_le (by omega), List.append_nil] at hTO'
        exact hTO'
      dsimp only
      refine wpAny_bind (wpAny_seqItems hTO2 rfl ?_)
      dsimp only
      refine wpAny_bind (wpAny_newTuple ?_ (by simp [valsAt]; exact Nat.le_trans hlen (by rw [sizeLine_eq]; decide)))
      have hsz2 : h'.objs.size = s.heap.objs.size := hsz.trans hs₁.1
      have hz' : IsZipF h' z TI TO .ellipsis f := hkp z _ D.zi D.TOz.symm hz₁
      have hTI' : IsTupV h' TI (refs cols) := hkp TI _ D.ti D.TITO (hs₁.extBut TI _ D.TIz hTI)
      have hzlt : z < h'.objs.size := Heap.lt_size hz'
      show wpAny _ _ (Builtin.SmallTypes.ownedTupleHandOut (.ref z) (.ref h'.objs.size) >>= _) _ _ _
      refine wpAny_bind ?_
      unfold Builtin.SmallTypes.ownedTupleHandOut
      have hz₆ : IsZipF (h'.push { cls := .type "tuple", data := .seq (valsAt cols k).toArray }) z TI TO .ellipsis f := Heap.get?_push_of_some _ hz'
      refine wpAny_bind (wpAny_setField_rec hz₆ (by simp) fun h₇ hz₇ hs₇ => ?_)
      replace hz₇ : IsZipF h₇ z TI TO (rawInt h'.objs.size) f := hz₇
      refine wpAny_setField_rec hz₇ (by simp) fun h₈ hz₈ hs₈ => ?_
      replace hz₈ : IsZipF h₈ z TI TO (rawInt h'.objs.size) false := hz₈
      have up : ∀ c o, c ≠ z → h'.get? c = some o → h₈.get? c = some o := fun c o c1 e => hs₈.extBut _ _ c1 (hs₇.extBut _ _ c1 (Heap.get?_push_of_some _ e))
      have hT₈ : IsTupV h₈ h'.objs.size (valsAt cols k) := hs₈.extBut _ _ (Nat.ne_of_gt hzlt) (hs₇.extBut _ _ (Nat.ne_of_gt hzlt) (Heap.get?_push_size _ rfl))
      have hz8 : h₈.objs.size = h'.objs.size + 1 := by rw [hs₈.1, hs₇.1, Heap.size_push]
      rw [hsz2] at hz₈ hT₈ hz8
      refine wpAny_pure ⟨_, rfl, ?_⟩
      show Q (.ref h'.objs.size) _
      rw [hsz2]
      have itz : ∀ c ∈ cols, c.it ≠ z := fun c hc e => D.zi (by rw [← e]; exact List.mem_map.mpr ⟨c, hc, rfl⟩)
      exact hQ h₈ _ false (valsAt cols k) hz₈ (.inr ⟨_, rfl⟩) (up _ _ D.TOz hTO2) (by simp [valsAt]) (up _ _ D.TIz hTI') (fun c hc => ⟨(i1 c hc).1.at fun o e => up _ _ (itz c hc) e, (i1 c hc).2.at fun o e => up _ _ (D.tup c hc).2.1 e⟩) hT₈ hz8
        fun c o c1 c2 c3 e => up c o c1 (hkp c o c3 c2 (hs₁.extBut c o c1 e))
  simp only [Bool.false_eq_true, if_false]
  refine wpAny_bind ?_
  rw [← Array.forIn_toList]
  have hi₁ : ItAll h₁ cols k := itAll_but hi hs₁ fun c hc => ⟨fun e => D.zi (List.mem_map.mpr ⟨c, hc, e⟩), (D.tup c hc).2.1⟩
  refine wpAny_forIn_list _ (fun rest b s' => ∃ dn td, cols = dn ++ td ∧ rest = refs td ∧ b = (none, (valsAt dn k).toArray) ∧ ∃ h', s' = { s with heap := h' } ∧ ItAll h' dn (k + 1) ∧ ItAll h' td k ∧ h'.objs.size = h₁.objs.size ∧ ∀ b o, b ∉ its cols → h₁.get? b = some o → h'.get? b = some o) _ ?_ ?_ _ _
    ⟨[], cols, rfl, by simp [refs], rfl, h₁, rfl, fun c hc => (by simp at hc), hi₁, rfl, fun _ _ _ e => e⟩
  · rintro x rest b s' ⟨dn, td, hcols, hrest, hb, h', rfl, i1, i2, hsz, hkp⟩
    cases td with
    | nil => simp [refs] at hrest
    | cons c td =>
      have hrest' : x = .ref c.it ∧ rest = refs td := by simpa [refs] using hrest
      obtain ⟨rfl, rfl⟩ := hrest'
      subst hb
      have hc : c ∈ cols := by rw [hcols]; simp
      have nd := D.nd
      have hsplit : its cols = its dn ++ c.it :: its td := by rw [hcols]; simp [its]
      rw [hsplit] at nd
      have n1 : c.it ∉ its dn := fun hm => (List.nodup_append.mp nd).2.2 _ hm _ (by simp) rfl
      have n2 : c.it ∉ its td := (List.nodup_cons.mp (List.nodup_append.mp nd).2.1).1
      obtain ⟨q1, q2⟩ := i2 c (by simp)
      have hx : c.vs.toArray[k]? = some (c.vs.getD k .none) := by
        have := hk c hc
        simp [List.getD_eq_getElem?_getD, List.getElem?_eq_getElem this]
      dsimp only
      refine wpAny_bind (wpAny_holding ?_)
      show wpAny _ _ (Builtin.SmallTypes.nextOf (.ref c.it) >>= _) _ _ _
      refine wpAny_bind (wpAny_nextOf_tuple_item (s := { s with heap := h' }) q1 q2 hx fun h'' hit hs => wpAny_pure (wpAny_pure ?_))
      refine ⟨dn ++ [c], td, by rw [hcols]; simp, rfl, ?_, h'', rfl, fun d hd => ?_, fun d hd => ?_, hs.1.trans hsz, fun b o hb e => hs.extBut b o (fun e2 => hb (by rw [e2]; exact List.mem_map.mpr ⟨c, hc, rfl⟩)) (hkp b o hb e)⟩
      · simp [valsAt]
      · rcases List.mem_append.mp hd with hd | hd
        · have dc : d ∈ cols := by rw [hcols]; simp [hd]
          refine ⟨(i1 d hd).1.at fun o e => hs.extBut _ _ (fun e2 => n1 (by rw [← e2]; exact List.mem_map.mpr ⟨d, hd, rfl⟩)) e, (i1 d hd).2.at fun o e => hs.extBut _ _ (fun e2 => (D.tup d dc).1 (by rw [e2]; exact List.mem_map.mpr ⟨c, hc, rfl⟩)) e⟩
        · have hd' : d = c := by simpa using hd
          subst hd'
          exact ⟨hit, q2.at fun o e => hs.extBut _ _ (fun e2 => (D.tup d hc).1 (by rw [e2]; exact List.mem_map.mpr ⟨d, hc, rfl⟩)) e⟩
      · have dc : d ∈ cols := by rw [hcols]; simp [hd]
        have i2d := i2 d (by simp [hd])
        refine ⟨i2d.1.at fun o e => hs.extBut _ _ (fun e2 => n2 (by rw [← e2]; exact List.mem_map.mpr ⟨d, hd, rfl⟩)) e, i2d.2.at fun o e => hs.extBut _ _ (fun e2 => (D.tup d dc).1 (by rw [e2]; exact List.mem_map.mpr ⟨c, hc, rfl⟩)) e⟩
  · rintro b s' ⟨dn, td, hcols, hrest, hb, h', rfl, i1, i2, hsz, hkp⟩
    have htd : td = [] := by
      cases td with
      | nil => rfl
      | cons c td => simp [refs] at hrest
    subst htd
    rw [List.append_nil] at hcols
    subst hcols hb
    dsimp only
    refine wpAny_bind (wpAny_newTuple ?_ (by simp [valsAt]; exact Nat.le_trans hlen (by rw [sizeLine_eq]; decide)))
    refine wpAny_pure ⟨_, rfl, ?_⟩
    have hsz2 : h'.objs.size = s.heap.objs.size := hsz.trans hs₁.1
    show Q (.ref h'.objs.size) _
    rw [hsz2]
    have up : ∀ b o, h'.get? b = some o → (h'.push { cls := .type "tuple", data := .seq (valsAt cols k).toArray }).get? b = some o := fun b o e => Heap.get?_push_of_some _ e
    have hz' : IsZipF h' z TI TO f0 true := hkp z _ D.zi hz₁
    have hTO' : IsTupV h' TO olds := hkp TO _ D.to (hs₁.extBut TO _ D.TOz hTO)
    have hTI' : IsTupV h' TI (refs cols) := hkp TI _ D.ti (hs₁.extBut TI _ D.TIz hTI)
    refine hQ _ f0 true olds (up _ _ hz') ho (up _ _ hTO') hol (up _ _ hTI') (fun c hc => ⟨(i1 c hc).1.at fun o e => up _ _ e, (i1 c hc).2.at fun o e => up _ _ e⟩) ?_ (by rw [Heap.size_push, hsz2]) fun c o c1 _ c2 e => up c o (hkp c o c2 (hs₁.extBut c o c1 e))
    have := Heap.get?_push_size h' (o := { cls := .type "tuple", data := .seq (valsAt cols k).toArray }) rfl
    rw [hsz2] at this
    exact this

theorem zip_end {f0 : Value} {olds : List Value} {c : ZC} {cs : List ZC} {Q : Fin → Shared → Prop} (hh : A.handled = none) (D : ZSep z TI TO cols) (hc : cols = c :: cs) (hz : IsZipF s.heap z TI TO f0 f) (ho : OwnOk f0) (hTI : IsTupV s.heap TI (refs cols)) (hi : ItAll s.heap cols k) (hk : c.vs.length ≤ k)
    (hE : ∀ h' e, (∀ b o, b ≠ z → b ∉ its cols → s.heap.get? b = some o → h'.get? b = some o) → (∃ o, h'.get? e = some o ∧ o.cls = .type "StopIteration") → E (.ref e) { s with heap := h' }) :
    wpAny (model prog w) A (Builtin.«zip.__next__» ⟨[.ref z], []⟩) Q E s := by
  have hcm : c ∈ cols := by rw [hc]; simp
  have itm : c.it ∈ its cols := List.mem_map.mpr ⟨c, hcm, rfl⟩
  have hx : c.vs.toArray[k]? = none := by simp; omega
  have cz : c.it ≠ z := fun e => D.zi (by rw [← e]; exact itm)
  show wpAny _ _ (field (.ref z) 2 >>= _) _ _ _
  refine wpAny_bind (wpAny_field hz rfl (x := .bool false) rfl ?_)
  show wpAny _ _ (field (.ref z) 3 >>= _) _ _ _
  refine wpAny_bind (wpAny_field hz rfl (x := .ref TI) rfl ?_)
  refine wpAny_bind (wpAny_seqItems hTI rfl ?_)
  dsimp only
  have he : (refs cols).toArray.isEmpty = false := by rw [hc]; rfl
  rw [if_neg (by rw [he]; exact Bool.false_ne_true)]
  show wpAny _ _ (Builtin.SmallTypes.ownedTupleIsFree (.ref z) >>= _) _ _ _
  refine wpAny_bind (zip_own hz ho ?_ fun h₁ hz₁ hs₁ => ?_)
  · simp only [if_true]
    refine wpAny_bind (wpAny_rule ?_)
    refine wpAny_bind (wpAny_field hz rfl (x := .ref TO) rfl ?_)
    refine wpAny_bind (wpAny_setField_rec hz (by simp) fun h₁ hz₁ hs₁ => ?_)
    replace hz₁ : IsZipF h₁ z TI TO .ellipsis f := hz₁
    have hi₁ : ItAll h₁ cols k := itAll_but hi hs₁ fun c hc => ⟨fun e => D.zi (List.mem_map.mpr ⟨c, hc, e⟩), (D.tup c hc).2.1⟩
    obtain ⟨q1, q2⟩ := hi₁ c hcm
    refine wpAny_bind ?_
    rw [show (refs cols) = .ref c.it :: refs cs from by rw [hc]; rfl]
    simp only [List.zipIdx_cons, List.forIn_cons]
    refine wpAny_bind (wpAny_bind (wpAny_onRaise ?_))
    show wpAny _ _ (Builtin.SmallTypes.nextOf (.ref c.it) >>= _) _ _ _
    refine wpAny_bind (wpAny_nextOf_tuple_end (s := { s with heap := h₁ }) hh q1 q2 hx fun h₂ e hs₂ he => ?_)
    obtain ⟨oe, hoe, hce⟩ := he
    have hz₂ : IsZipF h₂ z TI TO .ellipsis f := hs₂ _ _ cz.symm hz₁
    have hez : e ≠ z := fun x => by subst x; rw [hz₂] at hoe; cases hoe; simp at hce
    refine wpAny_setField_rec hz₂ (by simp) fun h₃ _ hs₃ => hE h₃ e (fun b o c1 c3 x => hs₃.extBut _ _ c1 (hs₂ _ _ (fun q => c3 (q ▸ itm)) (hs₁.extBut _ _ c1 x))) ⟨oe, hs₃.extBut _ _ hez hoe, hce⟩
  simp only [Bool.false_eq_true, if_false]
  have hi₁ : ItAll h₁ cols k := itAll_but hi hs₁ fun c hc => ⟨fun e => D.zi (List.mem_map.mpr ⟨c, hc, e⟩), (D.tup c hc).2.1⟩
  obtain ⟨q1, q2⟩ := hi₁ c hcm
  refine wpAny_bind ?_
  rw [← Array.forIn_toList]
  rw [show (refs cols) = .ref c.it :: refs cs from by rw [hc]; rfl]
  simp only [List.forIn_cons]
  refine wpAny_bind (wpAny_bind (wpAny_holding ?_))
  show wpAny _ _ (Builtin.SmallTypes.nextOf (.ref c.it) >>= _) _ _ _
  refine wpAny_bind (wpAny_nextOf_tuple_end (s := { s with heap := h₁ }) hh q1 q2 hx fun h₂ e hs₂ he => hE h₂ e (fun b o c1 c3 x => hs₂ _ _ (fun q => c3 (q ▸ itm)) (hs₁.extBut _ _ c1 x)) he)

theorem next_zip_item {f0 : Value} {olds : List Value} {Q : Option Value → Shared → Prop} (D : ZSep z TI TO cols) (hz : IsZipF s.heap z TI TO f0 f) (ho : OwnOk f0) (hTO : IsTupV s.heap TO olds) (hol : olds.length = cols.length) (hTI : IsTupV s.heap TI (refs cols)) (hne : cols ≠ []) (hi : ItAll s.heap cols k) (hk : ∀ c ∈ cols, k < c.vs.length) (hlen : cols.length ≤ 1000)
    (hQ : ∀ h' f0' f' olds', IsZipF h' z TI TO f0' f' → OwnOk f0' → IsTupV h' TO olds' → olds'.length = cols.length → IsTupV h' TI (refs cols) → ItAll h' cols (k + 1) → IsTupV h' s.heap.objs.size (valsAt cols k) → h'.objs.size = s.heap.objs.size + 1 →
      (∀ c o, c ≠ z → c ≠ TO → c ∉ its cols → s.heap.get? c = some o → h'.get? c = some o) → Q (some (.ref s.heap.objs.size)) { s with heap := h' }) :
    wpAny (model prog w) A (pyNext (.ref z)) Q E s := by
  have hT : s.TypeIs (.ref z) "zip" := ⟨_, hz, rfl⟩
  unfold pyNext
  exact wpAny_bind (wpAny_attempt (wpAny_callSpecial?_slot (name := Str.ofString "__next__") hT F.slot_zip_next
    (wpAny_call_entry F.slot_zip_next hT F.entry_zip_next
      (zip_item D hz ho hTO hol hTI hne hi hk hlen fun h' a1 a2 a3 a4 a5 a6 a7 a8 a9 a10 a11 a12 => wpAny_pure (hQ h' a1 a2 a3 a4 a5 a6 a7 a8 a9 a10 a11 a12)) (F.args_zip_next_1 _))))
theorem next_zip_end {f0 : Value} {c : ZC} {cs : List ZC} {Q : Option Value → Shared → Prop} (hh : A.handled = none) (D : ZSep z TI TO cols) (hc : cols = c :: cs) (hz : IsZipF s.heap z TI TO f0 f) (ho : OwnOk f0) (hTI : IsTupV s.heap TI (refs cols)) (hi : ItAll s.heap cols k) (hk : c.vs.length ≤ k)
    (hQ : ∀ h', (∀ b o, b ≠ z → b ∉ its cols → s.heap.get? b = some o → h'.get? b = some o) → Q none { s with heap := h' }) : wpAny (model prog w) A (pyNext (.ref z)) Q E s := by
  have hT : s.TypeIs (.ref z) "zip" := ⟨_, hz, rfl⟩
  unfold pyNext
  refine wpAny_bind (wpAny_attempt (wpAny_callSpecial?_slot (name := Str.ofString "__next__") hT F.slot_zip_next
    (wpAny_call_entry F.slot_zip_next hT F.entry_zip_next (zip_end (olds := []) hh D hc hz ho hTI hi hk fun h' e hk he => ?_) (F.args_zip_next_1 _))))
  obtain ⟨o, ho, hc⟩ := he
  refine wpAny_bind (wpAny_isInstance (T := "StopIteration") (b := true) ⟨o, ho, hc⟩ isSubtype_stop ?_)
  exact wpAny_pure (hQ _ hk)
theorem iter_zip {f0 : Value} {Q : Value → Shared → Prop} (hz : IsZipF s.heap z TI TO f0 f) (h : Q (.ref z) s) : wpAny (model prog w) A (pyIter (.ref z)) Q E s := by
  have hT : s.TypeIs (.ref z) "zip" := ⟨_, hz, rfl⟩
  refine wpAny_pyIter_slot hT F.slot_zip_iter (wpAny_call_entry F.slot_zip_iter hT F.entry_zip_iter ?_ (F.args_zip_iter_1 _))
  show wpAny _ _ (ret (.ref z)) _ _ s
  exact wpAny_pure ⟨_, rfl, "zip", _, hT, F.slot_zip_next.lookup, h⟩
end
end DLZ
set_option Elab.async false
set_option linter.all false
set_option maxRecDepth 100000
set_option maxHeartbeats 2000000
/-! DLZ2: the call zip(*t), as an iterator. -/
namespace DLZ
open PySem PySem.Spec PyProof.Rows L2 DL
open Sem (wp)
/-- the tuples that are zipped, and their items -/
abbrev TV := Addr × List Value
def mkCols : Nat → List TV → List ZC
  | _, [] => []
  | b, p :: r => ⟨b, p.1, p.2⟩ :: mkCols (b + 1) r
theorem mkCols_its : ∀ (b : Nat) (ts : List TV), its (mkCols b ts) = List.range' b ts.length
  | _, [] => rfl
  | b, p :: r => by
    show b :: its (mkCols (b + 1) r) = _
    rw [mkCols_its (b + 1) r]
    rfl
theorem mkCols_length : ∀ (b : Nat) (ts : List TV), (mkCols b ts).length = ts.length
  | _, [] => rfl
  | b, p :: r => by
    show (mkCols (b + 1) r).length + 1 = _
    rw [mkCols_length]; rfl
theorem mkCols_append : ∀ (b : Nat) (xs ys : List TV), mkCols b (xs ++ ys) = mkCols b xs ++ mkCols (b + xs.length) ys
  | b, [], ys => by simp [mkCols]
  | b, p :: r, ys => by
    show _ :: mkCols (b + 1) (r ++ ys) = _
    rw [mkCols_append (b + 1) r ys]
    have e : b + 1 + r.length = b + (p :: r).length := by rw [List.length_cons]; omega
    rw [e]
    rfl
theorem mkCols_tup : ∀ (b : Nat) (ts : List TV) (c : ZC), c ∈ mkCols b ts → (c.tup, c.vs) ∈ ts
  | b, p :: r, c, h => by
    rcases List.mem_cons.mp h with h | h
    · subst h; exact List.mem_cons_self ..
    · exact List.mem_cons_of_mem _ (mkCols_tup (b + 1) r c h)
theorem zs1 {b n x : Nat} (h : x ∈ List.range' b n) : b ≤ x ∧ x < b + n := by
  rw [List.mem_range'_1] at h; exact h
theorem zs2 {b n x : Nat} (h : x < b) : x ∉ List.range' b n ∧ x ≠ b + n + 2 ∧ x ≠ b + n + 1 := ⟨fun q => by have := zs1 q; omega, by omega, by omega⟩
theorem zs3 {b n k : Nat} : b + n + k ∉ List.range' b n := fun q => by have := zs1 q; omega
theorem zsep {b n : Nat} {cols : List ZC} (hi : its cols = List.range' b n) (ht : ∀ c ∈ cols, Nat.lt c.tup b) : ZSep (b + n + 2) (b + n) (b + n + 1) cols where
  nd := by rw [hi]; exact List.nodup_range'
  zi := by rw [hi]; exact zs3
  ti := by rw [hi]; exact zs3 (k := 0)
  to := by rw [hi]; exact zs3
  tup := fun c hc => by rw [hi]; exact zs2 (ht c hc)
  TIz := Nat.ne_of_lt (Nat.lt_add_of_pos_right (by decide))
  TOz := Nat.ne_of_lt (Nat.lt_succ_self _)
  TITO := Nat.ne_of_lt (Nat.lt_succ_self _)
def tvs (ts : List TV) : List Value := ts.map fun p => .ref p.1
theorem zip_facts : ∀ vs : List Value, vs.length ≤ 6 → checkTypeCall "zip" ⟨vs, []⟩ = pure () ∧ checkBuiltinCall "zip.__new__" ⟨.type "zip" :: vs, []⟩ = pure () ∧ (∀ obj, argsOk "object.__init__" ⟨obj :: vs, []⟩)
  | [], _ => ⟨by kernel_rfl, by kernel_rfl, fun obj => by
      unfold argsOk; rw [signature?_of (id := "object.__init__") (n := ['_', '_', 't', 'i', 'n', 'i', '_', '_']) (o := ['t', 'c', 'e', 'j', 'b', 'o']) (by kernel_rfl) F.owner_object]; kernel_rfl⟩
  | [a], _ => ⟨by kernel_rfl, by kernel_rfl, fun obj => by
      unfold argsOk; rw [signature?_of (id := "object.__init__") (n := ['_', '_', 't', 'i', 'n', 'i', '_', '_']) (o := ['t', 'c', 'e', 'j', 'b', 'o']) (by kernel_rfl) F.owner_object]; kernel_rfl⟩
  | [a, b], _ => ⟨by kernel_rfl, by kernel_rfl, fun obj => by
      unfold argsOk; rw [signature?_of (id := "object.__init__") (n := ['_', '_', 't', 'i', 'n', 'i', '_', '_']) (o := ['t', 'c', 'e', 'j', 'b', 'o']) (by kernel_rfl) F.owner_object]; kernel_rfl⟩
  | [a, b, c], _ => ⟨by kernel_rfl, by kernel_rfl, fun obj => by
      unfold argsOk; rw [signature?_of (id := "object.__init__") (n := ['_', '_', 't', 'i', 'n', 'i', '_', '_']) (o := ['t', 'c', 'e', 'j', 'b', 'o']) (by kernel_rfl) F.owner_object]; kernel_rfl⟩
  | [a, b, c, d], _ => ⟨by kernel_rfl, by kernel_rfl, fun obj => by
      unfold argsOk; rw [signature?_of (id := "object.__init__") (n := ['_', '_', 't', 'i', 'n', 'i', '_', '_']) (o := ['t', 'c', 'e', 'j', 'b', 'o']) (by kernel_rfl) F.owner_object]; kernel_rfl⟩
  | [a, b, c, d, e], _ => ⟨by kernel_rfl, by kernel_rfl, fun obj => by
      unfold argsOk; rw [signature?_of (id := "object.__init__") (n := ['_', '_', 't', 'i', 'n', 'i', '_', '_']) (o := ['t', 'c', 'e', 'j', 'b', 'o']) (by kernel_rfl) F.owner_object]; kernel_rfl⟩
  | [a, b, c, d, e, f], _ => ⟨by kernel_rfl, by kernel_rfl, fun obj => by
      unfold argsOk; rw [signature?_of (id := "object.__init__") (n := ['_', '_', 't', 'i', 'n', 'i', '_', '_']) (o := ['t', 'c', 'e', 'j', 'b', 'o']) (by kernel_rfl) F.owner_object]; kernel_rfl⟩
  | a :: b :: c :: d :: e :: f :: g :: r, h => by simp at h
theorem newClass_zip (vs : List Value) : Builtin.SmallTypes.newClass "zip" ⟨.type "zip" :: vs, []⟩ = pure (.type "zip", vs) := by
  unfold Builtin.SmallTypes.newClass
  simp only [isType, sub_zip, pure_bind, Bool.not_true, Bool.false_eq_true, if_false]
/-- what stands after zip(..) -/
structure ZNew (h h' : Heap) (ts : List TV) : Prop where
  z : IsZipF h' (h.objs.size + ts.length + 2) (h.objs.size + ts.length) (h.objs.size + ts.length + 1) .none false
  ti : IsTupV h' (h.objs.size + ts.length) (refs (mkCols h.objs.size ts))
  to : IsTupV h' (h.objs.size + ts.length + 1) (ts.map fun _ => .none)
  it : ItAll h' (mkCols h.objs.size ts) 0
  sz : h'.objs.size = h.objs.size + ts.length + 3
  kp : ∀ c o, h.get? c = some o → h'.get? c = some o
theorem meets_zip (ts : List TV) (hl : ts.length ≤ 6) : Meets (Builtin.«zip.__new__» ⟨.type "zip" :: tvs ts, []⟩) (fun _ R s => (∀ p ∈ ts, s.heap.IsTuple p.1 p.2.toArray) ∧
      ∀ h', ZNew s.heap h' ts → R (.ok (.ret (.ref (s.heap.objs.size + ts.length + 2)))) { s with heap := h' }) :=
  .of_wp fun prog w A R s h => by
    obtain ⟨hT, h⟩ := h
    unfold Builtin.«zip.__new__»
    refine wpAny_bind (wpAny_of_eq (newClass_zip _) ?_)
    dsimp only
    simp only [List.length_nil, gt_iff_lt, Nat.not_lt_zero, if_false]
    refine wpAny_bind ?_
    unfold Builtin.SmallTypes.iterAll
    refine wpAny_bind ?_
    refine wpAny_forIn_list _ (fun rest b s' => ∃ dn td, ts = dn ++ td ∧ rest = tvs td ∧ b = (refs (mkCols s.heap.objs.size dn)).toArray ∧ ∃ h', s' = { s with heap := h' } ∧ ItAll h' (mkCols s.heap.objs.size dn) 0 ∧ h'.objs.size = s.heap.objs.size + dn.length ∧ ∀ c o, s.heap.get? c = some o → h'.get? c = some o) _ ?_ ?_ _ _
      ⟨[], ts, rfl, rfl, rfl, s.heap, rfl, (fun c hc => nomatch hc), rfl, fun _ _ e => e⟩
    · rintro x rest b s' ⟨dn, td, hts, hrest, hb, h', rfl, i1, hsz, hkp⟩
      cases td with
      | nil => simp [tvs] at hrest
      | cons p td =>
        have hrest' : x = .ref p.1 ∧ rest = tvs td := by simpa [tvs] using hrest
        obtain ⟨rfl, rfl⟩ := hrest'
        subst hb
        have hp : p ∈ ts := by rw [hts]; simp
        have ht : h'.IsTuple p.1 p.2.toArray := (hT p hp).at fun o e => hkp _ _ e
        dsimp only
        refine wpAny_bind (wpAny_holding (wpAny_pyIter_tuple (s := { s with heap := h' }) ht (wpAny_pure ?_)))
        have up : ∀ c o, h'.get? c = some o → (h'.push { cls := .type "tuple_iterator", data := .fields #[.ref p.1, .int 0 0] }).get? c = some o := fun c o e => Heap.get?_push_of_some _ e
        refine ⟨dn ++ [p], td, by rw [hts]; simp, rfl, ?_, _, rfl, fun c hc => ?_, by rw [Heap.size_push, hsz]; simp; rfl, fun c o e => up _ _ (hkp c o e)⟩
        · rw [mkCols_append]
          simp [refs, mkCols, hsz]
        · rw [mkCols_append] at hc
          rcases List.mem_append.mp hc with hc | hc
          · exact ⟨(i1 c hc).1.at fun o e => up _ _ e, (i1 c hc).2.at fun o e => up _ _ e⟩
          · have hc' : c = ⟨s.heap.objs.size + dn.length, p.1, p.2⟩ := by simpa [mkCols] using hc
            subst hc'
            refine ⟨⟨{ cls := .type "tuple_iterator", data := .fields #[.ref p.1, .int 0 0] }, ?_, rfl, rfl⟩, ht.at fun o e => up _ _ e⟩
            show Heap.get? _ (s.heap.objs.size + dn.length) = _
            rw [← hsz]
            exact Heap.get?_push_size _ rfl
    · rintro b s' ⟨dn, td, hts, hrest, hb, h', rfl, i1, hsz, hkp⟩
      have htd : td = [] := by
        cases td with
        | nil => rfl
        | cons c td => simp [tvs] at hrest
      subst htd
      rw [List.append_nil] at hts
      subst hts hb
      refine wpAny_pure ?_
      have hlen : (refs (mkCols s.heap.objs.size ts)).length ≤ 6 := by rw [List.length_map, mkCols_length]; exact hl
      have hsl : 6 ≤ sizeLine := by rw [sizeLine_eq]; decide
      show wpAny _ _ (newTuple (refs (mkCols s.heap.objs.size ts)) >>= _) _ _ _
      refine wpAny_bind (wpAny_newTuple ?_ (Nat.le_trans hlen hsl))
      show wpAny _ _ (newTuple ((refs (mkCols s.heap.objs.size ts)).map fun _ => .none) >>= _) _ _ _
      refine wpAny_bind (wpAny_newTuple ?_ (by rw [List.length_map]; exact Nat.le_trans hlen hsl))
      show wpAny _ _ (newObj (.type "zip") (.fields #[.none, .bool false, .bool false, .ref _, .ref _]) >>= _) _ _ _
      refine wpAny_bind (wpAny_newObj_type ?_)
      have e1 : ((refs (mkCols s.heap.objs.size ts)).map fun _ => Value.none) = ts.map fun _ => .none := by
        apply List.ext_getElem
        · simp [mkCols_length]
        · intro i h1 h2; simp
      rw [e1]
      have up : ∀ (h0 : Heap) (o0 : Obj) c o, h0.get? c = some o → (h0.push o0).get? c = some o := fun h0 o0 c o e => Heap.get?_push_of_some _ e
      have s1 : ∀ o1, (h'.push o1).objs.size = s.heap.objs.size + ts.length + 1 := fun o1 => by rw [Heap.size_push, hsz]
      have s2 : ∀ o1 o2, ((h'.push o1).push o2).objs.size = s.heap.objs.size + ts.length + 2 := fun o1 o2 => by rw [Heap.size_push, s1]
      refine wpAny_pure ⟨_, rfl, ?_⟩
      have gz := Heap.get?_push_size ((h'.push { cls := .type "tuple", data := .seq (refs (mkCols s.heap.objs.size ts)).toArray }).push { cls := .type "tuple", data := .seq (ts.map fun _ => Value.none).toArray }) (o := { cls := .type "zip", data := .fields #[.none, .bool false, .bool false, .ref h'.objs.size, .ref (h'.push { cls := .type "tuple", data := .seq (refs (mkCols s.heap.objs.size ts)).toArray }).objs.size] }) rfl
      have gO := up _ { cls := .type "zip", data := .fields #[.none, .bool false, .bool false, .ref h'.objs.size, .ref (h'.push { cls := .type "tuple", data := .seq (refs (mkCols s.heap.objs.size ts)).toArray }).objs.size] } _ _ (Heap.get?_push_size (h'.push { cls := .type "tuple", data := .seq (refs (mkCols s.heap.objs.size ts)).toArray }) (o := { cls := .type "tuple", data := .seq (ts.map fun _ => Value.none).toArray }) rfl)
      have gI := up _ { cls := .type "zip", data := .fields #[.none, .bool false, .bool false, .ref h'.objs.size, .ref (h'.push { cls := .type "tuple", data := .seq (refs (mkCols s.heap.objs.size ts)).toArray }).objs.size] } _ _ (up _ { cls := .type "tuple", data := .seq (ts.map fun _ => Value.none).toArray } _ _ (Heap.get?_push_size h' (o := { cls := .type "tuple", data := .seq (refs (mkCols s.heap.objs.size ts)).toArray }) rfl))
      have hq := h _ (ZNew.mk (h := s.heap) (ts := ts) (by rw [s2] at gz; rw [s1, hsz] at gz; exact gz) (by rw [s1, hsz] at gI; exact gI) (by rw [s1] at gO; rw [hsz] at gO; exact gO)
        (fun c hc => ⟨(i1 c hc).1.at fun o e => up _ _ _ _ (up _ _ _ _ (up _ _ _ _ e)), (i1 c hc).2.at fun o e => up _ _ _ _ (up _ _ _ _ (up _ _ _ _ e))⟩) (by rw [Heap.size_push, s2]) fun c o e => up _ _ _ _ (up _ _ _ _ (up _ _ _ _ (hkp c o e))))
      show R (.ok (.ret (.ref ((h'.push { cls := .type "tuple", data := .seq (refs (mkCols s.heap.objs.size ts)).toArray }).push { cls := .type "tuple", data := .seq (ts.map fun _ => Value.none).toArray }).objs.size))) _
      rw [s2, s1, hsz]
      exact hq
section
variable {prog : Program} {w : World} {A : Around} {E : Value → Shared → Prop} {s : Shared}
theorem call_zip {ts : List TV} {Q : Value → Shared → Prop} (hl : ts.length ≤ 6) (hT : ∀ p ∈ ts, s.heap.IsTuple p.1 p.2.toArray)
    (h : ∀ h', ZNew s.heap h' ts → Q (.ref (s.heap.objs.size + ts.length + 2)) { s with heap := h' }) : wpAny (model prog w) A (call (.type "zip") (tvs ts)) Q E s := by
  obtain ⟨f1, f2, f3⟩ := zip_facts (tvs ts) (by rw [tvs, List.length_map]; exact hl)
  exact callType_new F.called_zip (by decide) f1 f2 f3 F.entry_zip_new (meets_zip ts hl) ⟨hT, fun h' q => ⟨⟨_, q.z, rfl⟩, h h' q⟩⟩
end

/-! ### the turn -/
abbrev Sk := Addr × Addr
def skOf (cols : List ZC) : List Sk := cols.map fun c => (c.it, c.tup)
/-- the tuples at the places ts, item i of each in a new tuple -/
def Itzn (K : PySem.W.Frag) (ts : List Addr) : It :=
  ⟨fun i H => ∀ t ∈ ts, ∃ xs : List V, SqT K H t xs ∧ i < xs.length, fun i H v H' => ∃ T xs, v = .ref T ∧ H T = none ∧ H' = upd H T (.tup xs) ∧ Paired (fun t x => ∀ ys, SqT K H t ys → ys[i]? = some x) ts xs,
   fun i H => (∃ t r, ts = t :: r ∧ ∃ xs : List V, SqT K H t xs ∧ xs.length ≤ i) ∧ ∀ t ∈ ts, ∃ xs : List V, SqT K H t xs⟩
/-- the columns as they stand now -/
theorem cols_now {X : Cx} {pins : List (Addr × Obj)} {σ : L2.St} {H : Hp} {s : Shared} (I : Inv X pins σ H s) {i : Nat} : ∀ {sk : List Sk}, (∀ p ∈ sk, ∃ xs : List V, SqT X.K H p.2 xs ∧ (i < xs.length ∨ True)) → (∀ p ∈ sk, s.heap.IsTupleIter p.1 p.2 i) →
    ∃ cols : List ZC, skOf cols = sk ∧ ItAll s.heap cols i ∧ ∀ c ∈ cols, ∃ xs : List V, SqT X.K H c.tup xs ∧ Vals xs c.vs
  | [], _, _ => ⟨[], rfl, fun _ h => (by cases h), fun _ h => (by cases h)⟩
  | p :: r, h1, h2 => by
    obtain ⟨cols, e, h3, h4⟩ := cols_now I (sk := r) (fun q hq => h1 q (List.mem_cons_of_mem _ hq)) (fun q hq => h2 q (List.mem_cons_of_mem _ hq))
    obtain ⟨xs, hx, _⟩ := h1 p (List.mem_cons_self ..)
    obtain ⟨its, rv, pt, hz⟩ := I.tuple hx
    refine ⟨⟨p.1, p.2, its⟩ :: cols, by rw [← e]; rfl, fun c hc => ?_, fun c hc => ?_⟩
    · rcases List.mem_cons.mp hc with hc | hc
      · subst hc; exact ⟨h2 p (List.mem_cons_self ..), pt⟩
      · exact h3 c hc
    · rcases List.mem_cons.mp hc with hc | hc
      · subst hc; exact ⟨xs, hx, rv⟩
      · exact h4 c hc

theorem vals_now {X : Cx} {pins : List (Addr × Obj)} {σ : L2.St} {H : Hp} {s : Shared} (I : Inv X pins σ H s) {i : Nat} : ∀ {cols : List ZC}, (∀ c ∈ cols, ∃ xs : List V, SqT X.K H c.tup xs ∧ Vals xs c.vs) → (∀ c ∈ cols, ∃ xs : List V, SqT X.K H c.tup xs ∧ i < xs.length) →
    (∀ c ∈ cols, i < c.vs.length) ∧ ∃ xs : List V, Vals xs (valsAt cols i) ∧ Paired (fun t x => ∀ ys, SqT X.K H t ys → ys[i]? = some x) (cols.map (·.tup)) xs
  | [], _, _ => ⟨fun _ h => (by cases h), [], .nil, .nil⟩
  | c :: r, h1, h2 => by
    obtain ⟨a1, xs, a2, a3⟩ := vals_now I (i := i) (cols := r) (fun q hq => h1 q (List.mem_cons_of_mem _ hq)) (fun q hq => h2 q (List.mem_cons_of_mem _ hq))
    obtain ⟨ys, hy, rv⟩ := h1 c (List.mem_cons_self ..)
    obtain ⟨ys', hy', hl⟩ := h2 c (List.mem_cons_self ..)
    have e := I.tuple_inj hy' hy
    subst e
    have hg : ys'[i]? = some ys'[i] := by simp [hl]
    obtain ⟨u, hu, ru⟩ := rv.get hg
    have hl2 := rv.length
    refine ⟨fun q hq => ?_, ys'[i] :: xs, ?_, .cons (fun zs hz => by rw [I.tuple_inj hz hy']; exact hg) a3⟩
    · rcases List.mem_cons.mp hq with hq | hq
      · subst hq; omega
      · exact a1 q hq
    · have : c.vs.getD i .none = u := by rw [List.getD_eq_getElem?_getD, hu]; rfl
      show Vals _ (c.vs.getD i .none :: valsAt r i)
      rw [this]
      exact .cons ru a2
abbrev skI (sk : List Sk) : List Addr := sk.map (·.1)
abbrev skT (sk : List Sk) : List Addr := sk.map (·.2)
def ZTn (z TI TO : Addr) (sk : List Sk) (i : Nat) (h : Heap) : Prop :=
  ∃ f0 f olds, IsZipF h z TI TO f0 f ∧ OwnOk f0 ∧ IsTupV h TO olds ∧ olds.length = sk.length ∧ IsTupV h TI (sk.map fun p => .ref p.1) ∧ ∀ p ∈ sk, h.IsTupleIter p.1 p.2 i
theorem turn_zipn {P : Program} {w : World} {K : PySem.W.Frag} {x : Str} {pos : Pos} {z TI TO : Addr} {sk : List Sk} (hsep : ∀ cols, skOf cols = sk → ZSep z TI TO cols) (hne : sk ≠ []) (hlen : sk.length ≤ 6) :
    Turn P w K (.Name x pos) (Itzn K (skT sk)) (z :: TI :: TO :: skI sk) z (ZTn z TI TO sk) where
  mem := by simp
  obj := fun i h st c hc => by
    obtain ⟨f0, f, olds, hz, _, hTO, _, hTI, hit⟩ := st
    rcases List.mem_cons.mp hc with e | hc
    · rw [e]; exact ⟨_, hz, fun v q => nomatch q⟩
    rcases List.mem_cons.mp hc with e | hc
    · rw [e]; exact ⟨_, hTI, fun v q => nomatch q⟩
    rcases List.mem_cons.mp hc with e | hc
    · rw [e]; exact ⟨_, hTO, fun v q => nomatch q⟩
    obtain ⟨p, hp, e⟩ := List.mem_map.mp hc
    obtain ⟨o, ho, _, hd⟩ := hit p hp
    rw [← e]
    exact ⟨o, ho, fun v q => by rw [hd] at q; cases q⟩
  keep := fun i h h' st k => by
    obtain ⟨f0, f, olds, hz, h0, hTO, hol, hTI, hit⟩ := st
    exact ⟨f0, f, olds, k z (by simp) _ hz, h0, k TO (by simp) _ hTO, hol, k TI (by simp) _ hTI, fun p hp => (hit p hp).at fun o q => k p.1 (by simp; exact .inr (.inr (.inr ⟨p.2, hp⟩))) o q⟩
  item := by
    intro X hP hw hK hc i pins s σ H E I hf st hg
    subst hP hw hK
    obtain ⟨f0, f, olds, hz, h0, hTO, hol, hTI, hit⟩ := st
    obtain ⟨cols, hsk, hi, hcs⟩ := cols_now I (i := i) (sk := sk) (fun p hp => by
      obtain ⟨xs, hx, hl⟩ := hg p.2 (List.mem_map.mpr ⟨p, hp, rfl⟩)
      exact ⟨xs, hx, .inr trivial⟩) hit
    have D := hsep cols hsk
    have hT : cols.map (·.tup) = skT sk := by rw [← hsk]; simp [skOf, skT]
    have hI : its cols = skI sk := by rw [← hsk]; simp [skOf, skI]
    have hR : refs cols = sk.map fun p => Value.ref p.1 := by rw [← hsk]; simp [skOf, refs]
    have hL : cols.length = sk.length := by rw [← hsk]; simp [skOf]
    obtain ⟨hk, xs, hv, hp⟩ := vals_now I (i := i) hcs (fun c hc => hg c.tup (by rw [← hT]; exact List.mem_map.mpr ⟨c, hc, rfl⟩))
    have hzl : z < s.heap.objs.size := Heap.lt_size hz
    have hxl : xs.length ≤ sizeLine := by
      rw [hv.length]; simp [valsAt]; rw [hL]; exact Nat.le_trans hlen (by rw [sizeLine_eq]; decide)
    refine next_zip_item D hz h0 hTO (hol.trans hL.symm) (by rw [hR]; exact hTI) (fun e => hne (by rw [← hsk, e]; rfl)) hi hk (by rw [hL]; omega) fun h' f0' f' olds' z' ho' TO' hol' TI' hi' hT' hsz hkp => ?_
    refine ⟨_, rfl, ?_⟩
    have hgo : ∀ {Q : Unit → Shared → Prop} {s' : Shared}, Q () s' → wpAny (model X.prog X.w) X.A (letOwnedTupleGo (.Name x pos) (.ref z) (.ref s.heap.objs.size)) Q E s' := fun q => by
      unfold letOwnedTupleGo
      exact wpAny_pure q
    refine hgo ?_
    have new : ObjOk X.prog X.w (upd H s.heap.objs.size (.tup xs)) h' s.heap.objs.size (.tup xs) :=
      ⟨hxl, valsAt cols i, hv, ⟨_, hT', rfl, _, rfl⟩⟩
    have I1 : Inv X pins σ (upd H s.heap.objs.size (.tup xs)) { s with heap := h' } :=
      I.turnedNew (t' := s.toks) (ch := z :: TI :: TO :: skI sk) (fun c o hb q => hkp c o (fun q' => hb (by simp [q'])) (fun q' => hb (by simp [q'])) (fun q' => hb (by rw [hI] at q'; simp at q' ⊢; exact .inr (.inr (.inr q')))) q) hf (Nat.le_refl _) new
    refine ⟨.ref s.heap.objs.size, _, I1, rfl, ⟨_, xs, rfl, I.hok.fresh (Nat.le_refl _), rfl, by rw [← hT]; exact hp⟩, ⟨f0', f', olds', z', ho', TO', hol'.trans hL, by rw [← hR]; exact TI', fun p hp => ?_⟩, fun c hcm => ?_⟩
    · rw [← hsk] at hp
      obtain ⟨c, hc, e⟩ := List.mem_map.mp hp
      rw [← e]
      exact (hi' c hc).1
    · have hlt : c < s.heap.objs.size := by
        rcases List.mem_cons.mp hcm with e | hcm
        · rw [e]; exact hzl
        rcases List.mem_cons.mp hcm with e | hcm
        · rw [e]; exact Heap.lt_size hTI
        rcases List.mem_cons.mp hcm with e | hcm
        · rw [e]; exact Heap.lt_size hTO
        obtain ⟨p, hp, e⟩ := List.mem_map.mp hcm
        obtain ⟨o, ho, _⟩ := hit p hp
        rw [← e]; exact Heap.lt_size ho
      rw [upd_ne (Nat.ne_of_lt hlt)]
      exact (hf c hcm).1
  done := by
    intro X hP hw hK hc i pins s σ H E I hf st hg
    subst hP hw hK
    obtain ⟨f0, f, olds, hz, h0, hTO, hol, hTI, hit⟩ := st
    obtain ⟨⟨t, r, ht, xs, hx, hl⟩, hall⟩ := hg
    obtain ⟨cols, hsk, hi, hcs⟩ := cols_now I (i := i) (sk := sk) (fun p hp => by
      obtain ⟨xs, hx⟩ := hall p.2 (List.mem_map.mpr ⟨p, hp, rfl⟩)
      exact ⟨xs, hx, .inr trivial⟩) hit
    have D := hsep cols hsk
    have hT : cols.map (·.tup) = skT sk := by rw [← hsk]; simp [skOf, skT]
    have hI : its cols = skI sk := by rw [← hsk]; simp [skOf, skI]
    have hR : refs cols = sk.map fun p => Value.ref p.1 := by rw [← hsk]; simp [skOf, refs]
    cases hcc : cols with
    | nil => rw [hcc] at hT; rw [← hT] at ht; cases ht
    | cons c cs =>
      have e : c.tup = t := by rw [hcc, ht] at hT; simp at hT; exact hT.1
      obtain ⟨ys, hy, rv⟩ := hcs c (by rw [hcc]; simp)
      rw [e] at hy
      have := I.tuple_inj hx hy
      subst this
      have hl2 := rv.length
      exact next_zip_end (I.ok.hd hc) D hcc hz h0 (by rw [hR]; exact hTI) hi (by omega) fun h' hk => ⟨rfl, I.turnedL (t' := s.toks) (ch := z :: TI :: TO :: skI sk) (fun c o hb q =>
        hk c o (fun q' => hb (by simp [q'])) (fun q' => hb (by rw [hI] at q'; simp at q' ⊢; exact .inr (.inr (.inr q')))) q) hf⟩
  self := fun A i s Q E st h => let ⟨_, _, _, hz, _⟩ := st; iter_zip hz h
end DLZ
set_option Elab.async false
set_option linter.all false
set_option maxRecDepth 100000
set_option maxHeartbeats 2000000
/-! DLZ3: zip(*t) over data; enumerate of a tuple. -/
namespace DLZ
open PySem PySem.Spec PyProof.Rows L2 DL
open Sem (wp)
theorem refs_of : ∀ {ts : List Addr} {us : List Value}, Vals (ts.map V.ref) us → us = ts.map Value.ref
  | [], _, .nil => rfl
  | t :: r, _, .cons h q => by
    obtain rfl := h
    rw [refs_of q]; rfl
theorem tvs_now {X : Cx} {pins : List (Addr × Obj)} {σ : L2.St} {H : Hp} {s : Shared} (I : Inv X pins σ H s) : ∀ {ts : List Addr}, (∀ t ∈ ts, ∃ xs : List V, SqT X.K H t xs) →
    ∃ tv : List TV, tv.map (·.1) = ts ∧ (∀ p ∈ tv, s.heap.IsTuple p.1 p.2.toArray)
  | [], _ => ⟨[], rfl, fun _ h => (by cases h)⟩
  | t :: r, h => by
    obtain ⟨tv, e, h1⟩ := tvs_now I (ts := r) fun q hq => h q (List.mem_cons_of_mem _ hq)
    obtain ⟨xs, hx⟩ := h t (List.mem_cons_self ..)
    obtain ⟨its, rv, pt, _⟩ := I.tuple hx
    exact ⟨(t, its) :: tv, by rw [← e]; rfl, fun p hp => by
      rcases List.mem_cons.mp hp with hp | hp
      · subst hp; exact pt
      · exact h1 p hp⟩
theorem mkCols_skT (b : Nat) : ∀ (ts : List TV), skT (skOf (mkCols b ts)) = ts.map (·.1) := by
  intro ts
  induction ts generalizing b with
  | nil => rfl
  | cons p r ih =>
    show p.1 :: skT (skOf (mkCols (b + 1) r)) = _
    rw [ih]; rfl
def iZipS (K : PySem.W.Frag) (te : TE) : TI := fun σ H R => te σ H fun y H1 => ∃ a, y = .ref a ∧ ∃ ts : List Addr, SqT K H1 a (ts.map V.ref) ∧ ts ≠ [] ∧ ts.length ≤ 6 ∧ (∀ t ∈ ts, ∃ xs : List V, SqT K H1 t xs) ∧ R (Itzn K ts) H1
theorem pi_zipS {X : Cx} {e : Expr} {te : TE} {p sp pos tpos : Pos} {x : Str} (hg : Gl X "zip") (hm : X.mg "zip" = none) (he : PE X e te) (hst : starEach [.Starred e sp] X.env = [(true, eval e X.env)] := by rfl) :
    PI X (.Name x tpos) (.Call (.Name "zip" p) [.Starred e sp] [] pos) (iZipS X.K te) := by
  refine ⟨fun pins s σ H R I h => ?_⟩
  refine Call_ (ld_blt I hg hm PyProof.Rows.boot_zip ?_)
  rw [hst]
  refine PySem.W.ks_call (P := fun _ => True) rfl (fun h _ => ⟨.machine, .inr (.inl rfl), PySem.W.Looks.of_pure rfl⟩) (PySem.W.ks_lone ?_)
  refine thn (he.run pins s σ H _ I h) fun u s1 ⟨y, H1, I1, ry, a, ey, ts, hts, hne, hlen, hall, q⟩ => ?_
  subst ey
  obtain rfl : u = Value.ref a := ry
  refine star_tup I1 hts fun us s2 I2 rv => ⟨trivial, ?_⟩
  rw [refs_of rv]
  obtain ⟨tv, etv, htv⟩ := tvs_now I2 hall
  have e1 : ([] : List Value) ++ ts.map Value.ref = tvs tv := by rw [← etv]; simp [tvs]
  have hl : tv.length = ts.length := by rw [← etv]; simp
  show wpAny _ _ (call (.type "zip") ([] ++ ts.map Value.ref) []) _ _ _
  rw [e1]
  refine call_zip (by omega) htv fun h' zn => iter_zip zn.z ?_
  have I3 : Inv X pins σ H1 { s2 with heap := h' } := I2.kept (t' := s2.toks) zn.kp
  have hsk : skT (skOf (mkCols s2.heap.objs.size tv)) = ts := (mkCols_skT _ tv).trans etv
  have hskI : skI (skOf (mkCols s2.heap.objs.size tv)) = List.range' s2.heap.objs.size tv.length := by
    rw [← mkCols_its]; simp [skOf, skI]
  have hz2 : ∀ cols, skOf cols = skOf (mkCols s2.heap.objs.size tv) → ZSep (s2.heap.objs.size + tv.length + 2) (s2.heap.objs.size + tv.length) (s2.heap.objs.size + tv.length + 1) cols := fun cols hc => by
    refine zsep ?_ fun c hcm => ?_
    · have : its cols = skI (skOf cols) := by simp [skOf, skI]
      rw [this, hc, hskI]
    · have : c.tup ∈ skT (skOf cols) := by simp [skOf, skT]; exact ⟨c, hcm, rfl⟩
      rw [hc, mkCols_skT] at this
      obtain ⟨p, hp, ep⟩ := List.mem_map.mp this
      obtain ⟨o, ho, _⟩ := htv p hp
      rw [← ep]
      exact Heap.lt_size ho
  have hn6 : (skOf (mkCols s2.heap.objs.size tv)).length ≤ 6 := by simp [skOf, mkCols_length]; omega
  have hnn : skOf (mkCols s2.heap.objs.size tv) ≠ [] := fun e => hne (by rw [← hsk, e]; rfl)
  refine ⟨s2.heap.objs.size + tv.length + 2, (s2.heap.objs.size + tv.length + 2) :: (s2.heap.objs.size + tv.length) :: (s2.heap.objs.size + tv.length + 1) :: skI (skOf (mkCols s2.heap.objs.size tv)), ZTn _ _ _ _, Itzn X.K ts, H1, rfl, I3, hsk ▸ turn_zipn hz2 hnn hn6, ?_, fun b hb => ?_, q⟩
  · refine ⟨.none, false, _, zn.z, .inl rfl, zn.to, by simp [skOf, mkCols_length], ?_, fun p hp => ?_⟩
    · have := zn.ti
      have e3 : (skOf (mkCols s2.heap.objs.size tv)).map (fun p => Value.ref p.1) = refs (mkCols s2.heap.objs.size tv) := by simp [skOf, refs]
      rw [e3]; exact this
    · obtain ⟨c, hc, ec⟩ := List.mem_map.mp hp
      rw [← ec]
      exact (zn.it c hc).1
  · have hle : s2.heap.objs.size ≤ b := by
      rcases List.mem_cons.mp hb with e | hb
      · rw [e]; exact Nat.le_trans (Nat.le_add_right _ _) (Nat.le_add_right _ _)
      rcases List.mem_cons.mp hb with e | hb
      · rw [e]; exact Nat.le_add_right _ _
      rcases List.mem_cons.mp hb with e | hb
      · rw [e]; exact Nat.le_trans (Nat.le_add_right _ _) (Nat.le_add_right _ _)
      rw [hskI] at hb
      exact (zs1 hb).1
    exact I2.fpOk hle (I2.hok.fresh hle)

/-! ### enumerate of a tuple -/
theorem meets_enumerate_newB1 {v : Value} {o : Obj} {H : Heap → Prop} (B : Begins v o H) :
    Meets (Builtin.«enumerate.__new__» ⟨[.type "enumerate", v], []⟩) (fun _ R s => H s.heap ∧
      R (.ok (.ret (.ref (s.heap.push o).objs.size))) { s with heap := (s.heap.push o).push { cls := .type "enumerate", data := .fields #[.none, .bool false, .ref s.heap.objs.size, rawInt 0, .none, .none] } }) :=
  .of_wp fun prog w A R s h => by
    obtain ⟨hp, g, d, tk, os⟩ := s; obtain ⟨h1, h⟩ := h
    have hsub := sub_enumerate
    have q1 : ∀ {A' : Around} {E : Value → Shared → Prop} {Q : Value → Shared → Prop}, Q (.ref hp.objs.size) ⟨hp.push o, g, d, tk, os⟩ → wpAny (model prog w) A' (pyIter v) Q E ⟨hp, g, d, tk, os⟩ :=
      fun q => B.iter prog w _ _ ⟨hp, g, d, tk, os⟩ _ h1 q
    wp_walk using q1
    refine wpAny_stack_any fun st => wpAny_pure ?_
    split
    · rename_i c _ _ _ _ _
      cases (c == Value.type "enumerate")
      · wp_walk using q1
        exact ⟨_, rfl, h⟩
      · wp_walk using q1
        exact ⟨_, rfl, h⟩
    · wp_walk using q1
      exact ⟨_, rfl, h⟩
section
variable {prog : Program} {w : World} {A : Around} {E : Value → Shared → Prop} {s : Shared}
theorem enum_begins1 {v : Value} {o : Obj} {H : Heap → Prop} {Q : Value → Shared → Prop} (B : Begins v o H) (h1 : H s.heap)
    (h : ∀ h', IsEnum h' (s.heap.objs.size + 1) s.heap.objs.size 0 .none → h'.get? s.heap.objs.size = some o → h'.objs.size = s.heap.objs.size + 2 →
      (∀ b o, s.heap.get? b = some o → h'.get? b = some o) → Q (.ref (s.heap.objs.size + 1)) { s with heap := h' }) :
    wpAny (model prog w) A (call (.type "enumerate") [v]) Q E s := by
  refine callType_new F.called_enumerate (by decide) (F.typeCall_enumerate_1 _) (F.newCall_enumerate_1 _) (fun obj => F.args_object_init_2 obj _) F.entry_enumerate_new
    (meets_enumerate_newB1 B) ⟨h1, ?_⟩
  have hz : (s.heap.push o).objs.size = s.heap.objs.size + 1 := Heap.size_push ..
  show _ ∧ _
  rw [hz]
  have he : IsEnum ((s.heap.push o).push { cls := .type "enumerate", data := .fields #[.none, .bool false, .ref s.heap.objs.size, rawInt 0, .none, .none] }) (s.heap.objs.size + 1) s.heap.objs.size 0 .none := by
    have := Heap.get?_push_size (s.heap.push o) (o := { cls := .type "enumerate", data := .fields #[.none, .bool false, .ref s.heap.objs.size, rawInt 0, .none, .none] }) rfl
    rw [hz] at this; exact this
  refine ⟨⟨_, he, rfl⟩, h _ he (Heap.get?_push_of_some _ (Heap.get?_push_size _ B.free)) (by rw [Heap.size_push, hz]) fun b o x => Heap.get?_push_of_some _ (Heap.get?_push_of_some _ x)⟩
end
/-- the tuple at a, each item in a new pair -/
def Itet (K : PySem.W.Frag) (a : Addr) : It :=
  ⟨fun i H => ∃ (xs : List V) (x : V), SqT K H a xs ∧ xs[i]? = some x, fun i H v H' => ∃ T x, v = .ref T ∧ H T = none ∧ H' = upd H T (.tup [.int (i : Nat), x]) ∧ ∀ xs, SqT K H a xs → xs[i]? = some x, fun i H => ∃ xs : List V, SqT K H a xs ∧ xs.length ≤ i⟩
theorem turn_enumT {P : Program} {w : World} {K : PySem.W.Frag} {elts : List Expr} {kk : Nat} {tpos : Pos} (a e it : Addr) (hae : a ≠ e) (hai : a ≠ it) :
    Turn P w K (.Tuple elts kk tpos) (Itet K a) [e, it] e (fun i h => (∃ old, IsEnum h e it ((i : Nat) : Int) old) ∧ h.IsTupleIter it a i ∧ e ≠ it) where
  mem := by simp
  obj := fun i h st b hb => by
    obtain ⟨⟨old, he⟩, ⟨o, ho, hc, hd⟩, _⟩ := st
    have e' : b = e ∨ b = it := by simpa using hb
    rcases e' with z | z
    · rw [z]; exact ⟨_, he, fun v q => nomatch q⟩
    · rw [z]; exact ⟨o, ho, fun v q => by rw [hd] at q; cases q⟩
  keep := fun i h h' st k => let ⟨⟨old, he⟩, hi, hne⟩ := st; ⟨⟨old, k e (by simp) _ he⟩, hi.at fun o q => k it (by simp) o q, hne⟩
  item := by
    intro X hP hw hK hc i pins s σ H E I hf st hg
    subst hP hw hK
    obtain ⟨⟨old, he⟩, hit, hne⟩ := st
    obtain ⟨xs, x, hq, hx⟩ := hg
    obtain ⟨its, rv, p, hz⟩ := I.tuple hq
    obtain ⟨u, hu, ru⟩ := rv.get hx
    have hel : e < s.heap.objs.size := Heap.lt_size he
    have hil : it < s.heap.objs.size := by obtain ⟨_, q, _⟩ := hit; exact Heap.lt_size q
    have hlt : i < its.toArray.size := by
      rw [List.size_toArray]
      exact (List.getElem?_eq_some_iff.mp hu).1
    refine wpAny_pyNext_enum_itemC (Draws.tuple (A := X.A.in1) (I.ok.hd hc) it a hai its.toArray) he ⟨hit, p⟩ hlt hne (by simp; exact ⟨hne, Ne.symm hae⟩) fun y h' tk hPx ho hst' hT hsz hk => ?_
    have ey : y = u := by
      have : its[i]? = some y := by simpa using hPx
      rw [hu] at this; exact (Option.some.inj this).symm
    subst ey
    refine ⟨_, rfl, wpAny_letOwnedTupleGo_enum (s := { s with heap := h', toks := tk + 1 }) ho fun h'' he' sb => ?_⟩
    have hT2 : h''.get? s.heap.objs.size = some { cls := .type "tuple", data := .seq #[.int i tk, y] } := (sb.2 _ (Nat.ne_of_gt hel)).trans hT
    have new : ObjOk X.prog X.w (upd H s.heap.objs.size (.tup [.int (i : Nat), x])) h'' s.heap.objs.size (.tup [.int (i : Nat), x]) :=
      ⟨by show 2 ≤ sizeLine; decide, [.int i tk, y], .cons ⟨_, rfl⟩ (.cons ru .nil), ⟨_, hT2, rfl, _, rfl⟩⟩
    have I1 : Inv X pins σ (upd H s.heap.objs.size (.tup [.int (i : Nat), x])) { s with heap := h'', toks := tk + 1 } :=
      I.turnedNew (ch := [e, it]) (fun b ob hb q => (sb.2 b (fun z => hb (by simp [z]))).trans (hk b ob (fun z => hb (by simp [z])) (fun z => hb (by simp [z])) q)) hf (Nat.le_refl _) new
    refine ⟨.ref s.heap.objs.size, _, I1, rfl, ⟨_, x, rfl, I.hok.fresh (Nat.le_refl _), rfl, fun ys hy => by rw [I.tuple_inj hy hq]; exact hx⟩, ⟨⟨y, ?_⟩, hst'.1.at fun o q => (sb.2 it (Ne.symm hne)).trans q, hne⟩, fun b hb => ?_⟩
    · have e1 : ((i + 1 : Nat) : Int) = (i : Int) + 1 := by omega
      rw [e1]; exact he'
    · have hb' : b < s.heap.objs.size := by
        have e' : b = e ∨ b = it := by simpa using hb
        rcases e' with z | z
        · rw [z]; exact hel
        · rw [z]; exact hil
      rw [upd_ne (Nat.ne_of_lt hb')]
      exact (hf b hb).1
  done := by
    intro X hP hw hK hc i pins s σ H E I hf st hg
    subst hP hw hK
    obtain ⟨⟨old, he⟩, hit, hne⟩ := st
    obtain ⟨xs, hq, hx⟩ := hg
    obtain ⟨its, rv, p, hz⟩ := I.tuple hq
    obtain ⟨f0, f1, f2, f3, f4, f5⟩ := hf it (by simp)
    have hl := rv.length
    have hT : s.TypeIs (.ref e) "enumerate" := ⟨_, he, rfl⟩
    unfold pyNext
    refine wpAny_bind (wpAny_attempt (wpAny_callSpecial?_slot (name := Str.ofString "__next__") hT F.slot_enumerate_next
      (wpAny_call_entry F.slot_enumerate_next hT F.entry_enumerate_next ?_ (F.args_enumerate_next_1 _))))
    show wpAny _ _ (field (.ref e) 2 >>= _) _ _ _
    refine wpAny_bind (wpAny_field he rfl (x := .ref it) rfl ?_)
    refine wpAny_bind (wpAny_nextOf_tuple_end (i := i) (I.ok.hd hc) hit p (by simp; omega) fun h' x he' hx' => ?_)
    obtain ⟨o, ho, hc⟩ := hx'
    refine wpAny_bind (wpAny_isInstance (T := "StopIteration") (b := true) ⟨o, ho, hc⟩ isSubtype_stop ?_)
    exact wpAny_pure ⟨rfl, I.turned (t' := s.toks) (fun b o hb q => he' b o hb q) f0 f1 f3 f4 f5⟩
  self := fun A i s Q E st h => let ⟨⟨_, he⟩, _⟩ := st; wpAny_pyIter_enum he h
def iEnumT (K : PySem.W.Frag) (ta : TA) : TI := fun σ H R => ta σ H fun vs H1 => ∃ a xs, vs = [.ref a] ∧ SqT K H1 a xs ∧ R (Itet K a) H1
theorem pi_enumT {X : Cx} {e : Expr} {ta : TA} {p pos tpos : Pos} {elts : List Expr} {kk : Nat} (hg : Gl X "enumerate") (hm : X.mg "enumerate" = none) (ha : PA X [e] ta) (hs : starEach [e] X.env = [(false, eval e X.env)] := by rfl) :
    PI X (.Tuple elts kk tpos) (.Call (.Name "enumerate" p) [e] [] pos) (iEnumT X.K ta) := by
  refine ⟨fun pins s σ H R I h => ?_⟩
  refine Call_ (ld_blt I hg hm boot_enumerate (PyProof.Rows.callWith_type1 (thn (ha.run pos pins s σ H _ I h) fun us s1 ⟨vs, H1, I1, r1, q1⟩ => ?_) hs rfl))
  obtain ⟨a, xs, ex, hq, q⟩ := q1
  subst ex
  cases r1 with
  | cons r rr =>
    cases rr
    cases r
    obtain ⟨its, rv, p', hz⟩ := I1.tuple hq
    have hal : a < s1.heap.objs.size := by obtain ⟨_, ho, _⟩ := p'; exact Heap.lt_size ho
    refine enum_begins1 (begins_tuple a its.toArray) p' fun h' he hit hsz hk => wpAny_pyIter_enum he ?_
    have I2 : Inv X pins σ H1 { s1 with heap := h' } := I1.kept (t' := s1.toks) hk
    refine ⟨s1.heap.objs.size + 1, [s1.heap.objs.size + 1, s1.heap.objs.size], _, _, H1, rfl, I2, turn_enumT a (s1.heap.objs.size + 1) s1.heap.objs.size (Nat.ne_of_lt (Nat.lt_succ_of_lt hal)) (Nat.ne_of_lt hal), ⟨⟨.none, he⟩, ⟨_, hit, rfl, rfl⟩, Nat.succ_ne_self _⟩, fun b hb => ?_, q⟩
    have e' : b = s1.heap.objs.size + 1 ∨ b = s1.heap.objs.size := by simpa using hb
    have hle : s1.heap.objs.size ≤ b := by
      rcases e' with z | z
      · rw [z]; exact Nat.le_add_right _ _
      · rw [z]; exact Nat.le_refl _
    exact I1.fpOk hle (I1.hok.fresh hle)
end DLZ
namespace DL
open PySem PySem.Spec PyProof.Rows L2 DLZ
theorem iterOk_enumT {K : PySem.W.Frag} {G : Hp} {a : Addr} {vs : List V} {xs : List PyData} (h : G a = some (.tup vs)) (hd : DtAll G vs xs) : IterOk (Itet K a) G (enD xs) := by
  refine ⟨fun i H e l => ?_, fun i H e l => ⟨vs, SqT.of (e _ _ h), by rw [hd.length]; rw [enD_length] at l; exact l⟩, fun i H v H' e y x q => ?_⟩
  · rw [enD_length] at l
    have hl : i < vs.length := by rw [hd.length]; exact l
    exact ⟨vs, vs[i], SqT.of (e _ _ h), by simp [hl]⟩
  · obtain ⟨T, v0, e1, e2, e3, y⟩ := y
    have hv := y vs (SqT.of (e _ _ h))
    obtain ⟨d, h1, h2⟩ := enD_get q
    obtain ⟨d', h3, h4⟩ := hd.get' hv
    rw [h1] at h3
    cases h3
    exact .inr ⟨T, _, _, e1, e2, e3, .cons (.int _) (.cons h4 .nil), h2⟩
/-- the columns of rows of n items -/
def colD (rows : List (List PyData)) (n : Nat) : List PyData := (List.range n).map fun i => .tuple (rows.map fun r => r.getD i .none)
theorem colD_length (rows : List (List PyData)) (n : Nat) : (colD rows n).length = n := by simp [colD]
theorem tups_of {G : Hp} : ∀ {vs : List V} {rows : List (List PyData)}, DtAll G vs (rows.map .tuple) → ∃ ts : List Addr, vs = ts.map V.ref ∧ Paired (fun t r => ∃ ws, G t = some (.tup ws) ∧ DtAll G ws r) ts rows
  | _, [], .nil => ⟨[], rfl, .nil⟩
  | _, r :: rows, .cons h q => by
    obtain ⟨ts, e, p⟩ := tups_of q
    obtain ⟨a, ws, rfl, hg, hd⟩ := dt_tup h
    exact ⟨a :: ts, by rw [e]; rfl, .cons ⟨ws, hg, hd⟩ p⟩
theorem pr_len {α β : Type} {F : α → β → Prop} : ∀ {xs : List α} {ys : List β}, Paired F xs ys → xs.length = ys.length
  | _, _, .nil => rfl
  | _, _, .cons _ p => by simp [pr_len p]
theorem pr_mem {α β : Type} {F : α → β → Prop} : ∀ {xs : List α} {ys : List β}, Paired F xs ys → ∀ x ∈ xs, ∃ y ∈ ys, F x y
  | _, _, .nil, _, h => by cases h
  | _, _, .cons (a := a) (b := b) f p, x, h => by
    rcases List.mem_cons.mp h with h | h
    · subst h; exact ⟨b, List.mem_cons_self .., f⟩
    · obtain ⟨y, hy, hf⟩ := pr_mem p x h
      exact ⟨y, List.mem_cons_of_mem _ hy, hf⟩
theorem col_at {K : PySem.W.Frag} {G H : Hp} (e : Ex G H) {i n : Nat} (hi : i < n) : ∀ {ts : List Addr} {rows : List (List PyData)} {xs : List V}, Paired (fun t r => ∃ ws, G t = some (.tup ws) ∧ DtAll G ws r) ts rows → (∀ r ∈ rows, r.length = n) →
    Paired (fun t x => ∀ ys, SqT K H t ys → ys[i]? = some x) ts xs → DtAll G xs (rows.map fun r => r.getD i .none)
  | _, _, _, .nil, _, .nil => .nil
  | _, _, _, .cons (b := r) ⟨ws, hg, hd⟩ p, hr, .cons f q => by
    have hv := f ws (SqT.of (e _ _ hg))
    obtain ⟨d, h1, h2⟩ := hd.get' hv
    have : r.getD i .none = d := by rw [List.getD_eq_getElem?_getD, h1]; rfl
    exact .cons (by show Dt G _ (r.getD i .none); rw [this]; exact h2) (col_at e hi p (fun r hm => hr r (List.mem_cons_of_mem _ hm)) q)
theorem iterOk_zip {K : PySem.W.Frag} {G : Hp} {ts : List Addr} {rows : List (List PyData)} {n : Nat} (hne : rows ≠ []) (hr : ∀ r ∈ rows, r.length = n) (h : Paired (fun t r => ∃ ws, G t = some (.tup ws) ∧ DtAll G ws r) ts rows) : IterOk (Itzn K ts) G (colD rows n) := by
  have all : ∀ H, Ex G H → ∀ t ∈ ts, ∃ xs : List V, SqT K H t xs ∧ xs.length = n := fun H e t ht => by
    obtain ⟨r, hm, ws, hg, hd⟩ := pr_mem h t ht
    exact ⟨ws, SqT.of (e _ _ hg), by rw [hd.length]; exact hr r hm⟩
  refine ⟨fun i H e l t ht => ?_, fun i H e l => ⟨?_, fun t ht => ?_⟩, fun i H v H' e y x q => ?_⟩
  · rw [colD_length] at l
    obtain ⟨xs, h1, h2⟩ := all H e t ht
    exact ⟨xs, h1, by omega⟩
  · rw [colD_length] at l
    cases ts with
    | nil => cases h; exact absurd rfl hne
    | cons t r =>
      obtain ⟨xs, h1, h2⟩ := all H e t (List.mem_cons_self ..)
      exact ⟨t, r, rfl, xs, h1, by omega⟩
  · obtain ⟨xs, h1, _⟩ := all H e t ht
    exact ⟨xs, h1⟩
  · obtain ⟨T, xs, e1, e2, e3, hp⟩ := y
    unfold colD at q
    rw [List.getElem?_map] at q
    by_cases hi : i < n
    · rw [List.getElem?_range hi] at q
      exact .inr ⟨T, xs, _, e1, e2, e3, col_at e hi h hr hp, (Option.some.inj q).symm⟩
    · rw [List.getElem?_eq_none (by simpa using hi)] at q
      cases q
section
variable {X : Cx} {e : Expr} {ds : Slots} {cs : Cells} {xs : List PyData} {pos p sp tpos : Pos}
theorem pvi_zip {x : Str} {rows : List (List PyData)} {n : Nat} (hm : X.mg "zip" = none) (he : PV X ds cs e (.d (.tuple (rows.map .tuple)))) (hne : rows ≠ []) (hl : rows.length ≤ 6) (hr : ∀ r ∈ rows, r.length = n) (hg : Gl X "zip" := by rfl) (hst : starEach [.Starred e sp] X.env = [(true, eval e X.env)] := by rfl) :
    PVI X ds cs (.Name x tpos) (.Call (.Name "zip" p) [.Starred e sp] [] pos) (colD rows n) :=
  pi_imp (pi_zipS hg hm he hst) fun σ H Q ⟨G, A, fr, w, sl, g⟩ => ⟨G, A, fr, w, sl, fun v x cs1 G1 A1 H1 ⟨r1, r2⟩ e1 a1 l1 w1 ok1 => by
    subst r1 r2
    obtain ⟨a, vs, rfl, hg, hall⟩ := dt_tup ok1
    obtain ⟨ts, rfl, hp⟩ := tups_of hall
    have hlen := pr_len hp
    exact ⟨a, rfl, ts, SqT.of (w1.gh _ _ hg), fun e => by rw [e] at hlen; exact hne (List.eq_nil_of_length_eq_zero hlen.symm), by omega, fun t ht => by
      obtain ⟨r, hm, ws, hg, hd⟩ := pr_mem hp t ht
      exact ⟨ws, SqT.of (w1.gh _ _ hg)⟩, g _ H1 G1 A1 e1 a1 w1 (iterOk_zip hne hr hp)⟩⟩
theorem pvi_enumT {elts : List Expr} {kk : Nat} (hm : X.mg "enumerate" = none) (ha : PVA X ds cs [e] [.d (.tuple xs)]) (hg : Gl X "enumerate" := by rfl) (hs : starEach [e] X.env = [(false, eval e X.env)] := by rfl) : PVI X ds cs (.Tuple elts kk tpos) (.Call (.Name "enumerate" p) [e] [] pos) (enD xs) :=
  pi_imp (pi_enumT hg hm ha hs) fun σ H Q ⟨G, A, fr, w, sl, g⟩ => ⟨G, A, fr, w, sl, fun v x cs1 G1 A1 H1 ⟨r1, r2⟩ e1 a1 l1 w1 ok1 => by
    subst r1 r2
    cases ok1 with
    | cons h1 h2 =>
      cases h2
      obtain ⟨a, vs, rfl, hg, hall⟩ := dt_tup h1
      exact ⟨a, vs, rfl, SqT.of (w1.gh _ _ hg), g _ H1 G1 A1 e1 a1 w1 (iterOk_enumT hg hall)⟩⟩
end
end DL
set_option Elab.async false
set_option linter.all false
set_option maxRecDepth 100000
set_option maxHeartbeats 4000000
/-! DL10: tuple * int, own repeated lists, comprehensions that make a matrix of one's own. -/
namespace DL
open PySem PySem.Spec PyProof.Rows L2

theorem tuple_mul1 (l : Addr) (items : Array Value) (n : Nat) (dd : Option Addr) (sl : Array (Option Value)) (u : Tok) :
    Meets (Builtin.«tuple.__mul__» ⟨[.ref l, .int 1 u], []⟩) (fun _ R s => s.heap.get? l = some { cls := .type "tuple", dict := dd, data := .seq items n, slots := sl } ∧
      R (.ok (.ret (Value.ref l))) s) :=
  .of_wp fun prog w A R s h => by
    obtain ⟨hp, g, d, tk, os⟩ := s
    obtain ⟨hl, h⟩ := h
    have f1 := AutoSeq1.idx_int
    have c0 : (decide ((1 : Int) < -(2 ^ 63)) || decide ((1 : Int) ≥ 2 ^ 63)) = false := by decide
    have c1 : (items.isEmpty || (1 : Int) == 1) = true := by simp
    wp_walk using wpAny_loadPart' hl
    repeat (first
      | (refine wpAny_ite_false (decide_eq_false (by rw [c0]; exact Bool.false_ne_true)) ?_; wp_walk using wpAny_loadPart' hl)
      | (refine wpAny_ite_true (decide_eq_true (by rw [c1])) ?_; wp_walk using wpAny_loadPart' hl))
    exact ⟨_, rfl, h⟩

def rRep1 (K : PySem.W.Frag) : R2 := fun x y H Q => ∃ l xs, x = .ref l ∧ y = .int 1 ∧ SqT K H l xs ∧ Q (.ref l) H
theorem op_rep1 {X : Cx} : OpR X (binaryOp .Mult) (rRep1 X.K) := by
  intro pins s σ H x y v u Q I rx ry h
  obtain ⟨l, xs, rfl, rfl, hT, q⟩ := h
  cases rx
  obtain ⟨t, rfl⟩ := ry
  obtain ⟨its, r, ⟨⟨cls, dd, data, sl⟩, ho, hc, n, hd⟩, hs⟩ := I.tuple hT
  simp only at hc hd
  subst hc hd
  refine wpAny_binaryOp_repeat_ref (T := "tuple") (U := "int") (by decide) ⟨_, ho, rfl⟩ (fun s' => typeIs_int s' 1 t) noFill_tuple_mul F.fills_int_mul F.slot_int_rmul repeat_tuple F.slot_int_index.lookup
    (call_meets F.slot_int_rmul (typeIs_int s 1 t) F.entry_int_rmul (F.args_int_rmul_2 _ _) (int_rmul_tuple 1 t l its.toArray n dd sl)
      ⟨ho, rfl, ⟨_, ho, rfl⟩, call_meets F.slot_tuple_mul ⟨_, ho, rfl⟩ F.entry_tuple_mul (F.args_tuple_mul_2 _ _) (tuple_mul1 l its.toArray n dd sl t) ⟨ho, ?_⟩⟩)
  exact ⟨.ref l, H, I, rfl, q⟩
section
variable {X : Cx} {e a b c : Expr} {es rest : List Expr} {pos : Pos} {ds : Slots} {cs : Cells} {R : Cells → SV → Prop} {i : Int}
/-- tuple * int, 1 and more -/
theorem pv_repT {xs : List PyData} (ha : PV X ds cs a (.d (.tuple xs))) (hb : PV X ds cs b (.d (.int i))) (hi : 1 ≤ i ∧ i ≤ 1000) (hx : xs ≠ []) (hz : xs.length ≤ 1000) : PV X ds cs (.BinOp a .Mult b pos) (.d (.tuple (List.replicate i.toNat xs).flatten)) := by
  by_cases h1 : i = 1
  · subst h1
    exact pv_op op_rep1 ha hb fun G A fr H v w Q W0 k1 k2 g => by
      obtain ⟨a0, ws, rfl, hg, hall⟩ := dt_tup k1
      cases k2
      exact ⟨a0, ws, rfl, rfl, SqT.of (W0.gh _ _ hg), g.here ⟨rfl, by simp⟩ W0 k1⟩
  · exact pv_op op_repT ha hb fun G A fr H v w Q W0 k1 k2 g => by
      obtain ⟨a0, ws, rfl, hg, hall⟩ := dt_tup k1
      cases k2
      have hl := hall.length
      exact ⟨a0, i, ws, rfl, rfl, SqT.of (W0.gh _ _ hg), fun e => by rw [e] at hl; exact hx (List.eq_nil_of_length_eq_zero hl.symm), by omega, hi.2, by omega, fun l hq => g.tup ⟨rfl, rfl⟩ W0 (hall.rep _) hq⟩
/-- list * int, a new list of one's own -/
theorem pd_repLO {xs : List PyData} (ha : PV X ds cs a (.d (.list xs))) (hb : PV X ds cs b (.d (.int i))) (hi : -(2 ^ 63) ≤ i ∧ i < 2 ^ 63) (hz : xs.length * i.toNat ≤ sizeLine) (r : R (cs ++ [some (.lst (List.replicate i.toNat xs).flatten)]) (.own cs.length)) : PD X ds cs (.BinOp a .Mult b pos) R :=
  pd_op op_rep ha (fun cs1 x ⟨e1, _⟩ => e1 ▸ hb) fun cs1 x cs2 y r1 r2 _ => by
    obtain ⟨rfl, rfl⟩ := r1
    obtain ⟨rfl, rfl⟩ := r2
    intro G A fr H v w Q W0 h1 h2 g
    obtain ⟨a0, ws, rfl, hg, hall⟩ := dt_lst h1
    cases h2
    exact ⟨a0, i, ws, rfl, rfl, W0.gh _ _ hg, hi.1, hi.2, by rw [hall.length]; exact hz, fun l hl => g.lstO r W0 (hall.rep _) hl⟩
end

/-! ### a comprehension of new lists: a matrix of one's own -/
theorem rows_of {G H : Hp} {A : Nat → List Addr} {n : Nat} : ∀ {rows : List (List PyData)} {bs : List Addr}, bs.length = rows.length → (∀ j r b, rows[j]? = some r → bs[j]? = some b → A (n + j) = [b] ∧ CellOk G H (A (n + j)) (.lst r)) → Rows G H bs rows
  | [], [], _, _ => .nil
  | r :: rows, b :: bs, hl, h => by
    obtain ⟨h1, h2⟩ := h 0 r b rfl rfl
    rw [h1] at h2
    obtain ⟨a, vs, ea, hv, hd⟩ := h2
    cases ea
    refine .cons hv hd (rows_of (A := A) (n := n + 1) (by simpa using hl) fun j r' b' q1 q2 => ?_)
    have := h (j + 1) r' b' q1 q2
    have e : n + 1 + j = n + (j + 1) := by omega
    rw [e]
    exact this
abbrev lstC (rows : List (List PyData)) : Cells := rows.map fun r => some (.lst r)
theorem W.merge {G : Hp} {A : Nat → List Addr} {cs : Cells} {fr H : Hp} {rows : List (List PyData)} {bs : List Addr} {D : Addr} (w : W G A (cs ++ lstC rows) fr H) (hl : bs.length = rows.length) (hA : ∀ j b, bs[j]? = some b → A (cs.length + j) = [b])
    (hH : H D = some (.lst (bs.map V.ref))) (gD : G D = none) (fD : fr D = none) (hn : ∀ k c, (cs ++ lstC rows)[k]? = some (some c) → D ∉ A k) :
    W G (fun k => if k = cs.length then D :: bs else A k) (cs ++ [some (.mat rows)]) fr H ∧ AEx cs.length A (fun k => if k = cs.length then D :: bs else A k) := by
  have old : ∀ k c, (cs ++ [some (.mat rows)])[k]? = some (some c) → (k < cs.length ∧ cs[k]? = some (some c)) ∨ (k = cs.length ∧ c = .mat rows) := fun k c q => by
    by_cases hk : k < cs.length
    · rw [List.getElem?_append_left hk] at q; exact .inl ⟨hk, q⟩
    · rw [List.getElem?_append_right (by omega)] at q
      have hk0 : k - cs.length = 0 := by
        cases e : k - cs.length with
        | zero => rfl
        | succ m => rw [e] at q; simp at q
      rw [hk0] at q
      simp at q
      exact .inr ⟨by omega, q.symm⟩
  have no : ∀ k, k < cs.length → ¬ k = cs.length := fun k h e => by omega
  have row : ∀ j b, bs[j]? = some b → ∃ r, rows[j]? = some r ∧ (cs ++ lstC rows)[cs.length + j]? = some (some (.lst r)) := fun j b q => by
    have hj : j < rows.length := by
      rw [← hl]; exact (List.getElem?_eq_some_iff.mp q).1
    refine ⟨rows[j], by simp [hj], ?_⟩
    rw [List.getElem?_append_right (by omega)]
    simp [hj]
  have up : ∀ k c, k < cs.length → cs[k]? = some (some c) → (cs ++ lstC rows)[k]? = some (some c) := fun k c hk q => by
    rw [List.getElem?_append_left hk]; exact q
  have inb : ∀ b ∈ bs, ∃ j r, bs[j]? = some b ∧ rows[j]? = some r ∧ (cs ++ lstC rows)[cs.length + j]? = some (some (.lst r)) ∧ A (cs.length + j) = [b] := fun b hb => by
    obtain ⟨j, hj, e⟩ := List.mem_iff_getElem.mp hb
    have q : bs[j]? = some b := by rw [← e]; simp [hj]
    obtain ⟨r, q2, q3⟩ := row j b q
    exact ⟨j, r, q, q2, q3, hA j b q⟩
  have bD : D ∉ bs := fun hb => by
    obtain ⟨j, r, _, _, q3, q4⟩ := inb D hb
    exact hn _ _ q3 (by rw [q4]; simp)
  refine ⟨⟨w.gh, w.fh, w.gf, fun k c q => ?_, fun k c q => ?_, fun k c q a ha => ?_, fun j k c d ne q1 q2 a ha => ?_⟩, fun k hk => if_neg (no k hk)⟩
  · rcases old k c q with ⟨hk, q⟩ | ⟨rfl, rfl⟩
    · rw [if_neg (no k hk)]; exact w.cell k c (up k c hk q)
    · rw [if_pos rfl]
      refine ⟨D, bs, rfl, hH, rows_of (A := A) (n := cs.length) hl fun j r b q1 q2 => ⟨hA j b q2, ?_⟩⟩
      obtain ⟨r', q3, q4⟩ := row j b q2
      rw [q1] at q3; cases q3
      exact w.cell _ _ q4
  · rcases old k c q with ⟨hk, q⟩ | ⟨rfl, rfl⟩
    · rw [if_neg (no k hk)]; exact w.nd k c (up k c hk q)
    · rw [if_pos rfl]
      refine List.nodup_cons.mpr ⟨bD, ?_⟩
      rw [List.nodup_iff_pairwise_ne, List.pairwise_iff_getElem]
      intro i j hi hj hij e
      obtain ⟨r1, _, q1⟩ := row i bs[i] (by simp [hi])
      obtain ⟨r2, _, q2⟩ := row j bs[j] (by simp [hj])
      have a1 := hA i bs[i] (by simp [hi])
      have a2 := hA j bs[j] (by simp [hj])
      exact w.apart _ _ _ _ (by omega) q1 q2 bs[i] (by rw [a1]; simp) (by rw [a2, e]; simp)
  · rcases old k c q with ⟨hk, q⟩ | ⟨rfl, rfl⟩
    · rw [if_neg (no k hk)] at ha; exact w.own k c (up k c hk q) a ha
    · rw [if_pos rfl] at ha
      rcases List.mem_cons.mp ha with rfl | ha
      · exact ⟨gD, fD⟩
      · obtain ⟨j, r, _, _, q3, q4⟩ := inb a ha
        exact w.own _ _ q3 a (by rw [q4]; simp)
  · rcases old j c q1 with ⟨hj, q1⟩ | ⟨rfl, rfl⟩
    · rw [if_neg (no j hj)] at ha
      rcases old k d q2 with ⟨hk, q2⟩ | ⟨rfl, rfl⟩
      · rw [if_neg (no k hk)]; exact w.apart j k c d ne (up j c hj q1) (up k d hk q2) a ha
      · rw [if_pos rfl]
        intro hm
        rcases List.mem_cons.mp hm with rfl | hm
        · exact hn _ _ (up j c hj q1) ha
        · obtain ⟨i, r, _, _, q3, q4⟩ := inb a hm
          exact w.apart _ _ _ _ (by omega) (up j c hj q1) q3 a ha (by rw [q4]; simp)
    · rw [if_pos rfl] at ha
      rcases old k d q2 with ⟨hk, q2⟩ | ⟨rfl, rfl⟩
      · rw [if_neg (no k hk)]
        intro hm
        rcases List.mem_cons.mp ha with rfl | ha
        · exact hn _ _ (up k d hk q2) hm
        · obtain ⟨i, r, _, _, q3, q4⟩ := inb a ha
          exact w.apart _ _ _ _ (by omega) (up k d hk q2) q3 a hm (by rw [q4]; simp)
      · exact absurd rfl ne
structure MIx where
  rows : List (List PyData)
  ds : Slots
section
variable {X : Cx} {elt tg iter : Expr} {scope : Scope} {own : List (Str × Nat)} {pos : Pos} {ds : Slots} {cs : Cells} {xs : List PyData} {g : TG} {js : List Nat} {f : Slots → PyData → Option Slots} {R : Cells → SV → Prop} {h : PyData → List PyData}
/-- what each item asks: a new list of one's own -/
def LcMEach (X : Cx) (elt : Expr) (scope : Scope) (vs : List Nat) (ds : Slots) (cs : Cells) (xs : List PyData) (f : Slots → PyData → Option Slots) (h : PyData → List PyData) : Prop :=
  ∀ x ∈ xs, ∃ ds', f (wipeD ds vs) x = some ds' ∧ ∀ cs2, Blk X scope fun X' => PD X' ds' cs2 elt fun cs3 sv => cs3 = cs2 ++ [some (.lst (h x))] ∧ sv = .own cs2.length
abbrev lcmE (K : PySem.W.Frag) (vs : List Nat) (ds : Slots) (cs : Cells) (xs : List PyData) (f : Slots → PyData → Option Slots) (h : PyData → List PyData) : TE :=
  fun σ H Q => ∃ p : PyData × MIx, (p.1 ∈ xs ∧ f (wipeD ds vs) p.1 = some p.2.ds) ∧ tD K p.2.ds (cs ++ lstC p.2.rows) (fun cs3 sv => cs3 = cs ++ lstC p.2.rows ++ [some (.lst (h p.1))] ∧ sv = .own (cs ++ lstC p.2.rows).length) σ H Q
theorem LcMEach.pe {vs : List Nat} (e : LcMEach X elt scope vs ds cs xs f h) : Blk X scope fun X' => PE X' elt (lcmE X.K vs ds cs xs f h) :=
  fun s H C cl fp => pe_any (ι := PyData × MIx) (t := fun p => tD X.K p.2.ds (cs ++ lstC p.2.rows) (fun cs3 sv => cs3 = cs ++ lstC p.2.rows ++ [some (.lst (h p.1))] ∧ sv = .own (cs ++ lstC p.2.rows).length)) (P := fun p => p.1 ∈ xs ∧ f (wipeD ds vs) p.1 = some p.2.ds) fun p ⟨h1, h2⟩ => by
    obtain ⟨ds', k1, k2⟩ := e p.1 h1
    rw [k1] at h2
    cases h2
    exact k2 _ s H C cl fp
theorem lcm_red {vs0 : List Nat} (gd : GD X.K g js f) (hj : ∀ j ∈ js, j ∈ vs0) (e : LcMEach X elt scope vs0 ds cs xs f h) (hd : R (cs ++ [some (.mat (xs.map h))]) (.own cs.length)) (hz : xs.length ≤ 1000000) {σ : L2.St} {H : Hp} {Q : VK} (hh : tD X.K ds cs R σ H Q) :
    tLc (tDI X.K ds cs xs) g tYes (lcmE X.K vs0 ds cs xs f h) vs0 σ H Q := by
  have szl : (1000000 : Nat) < sizeLine := by decide
  obtain ⟨G, A, fr, w, sl, go⟩ := hh
  refine ⟨G, A, fr, w, sl, fun J H1 G1 A1 e1 a1 w1 it D hD => ?_⟩
  have fD : fr D = none := w1.fh.fresh hD
  have gD : G1 D = none := w1.gh.fresh hD
  let Pv : Nat → Hp → Prop := fun i H' => ∃ (G' : Hp) (A' : Nat → List Addr) (bs : List Addr), Ex G1 G' ∧ AEx cs.length A1 A' ∧ W G' A' (cs ++ lstC ((xs.take i).map h)) fr H' ∧ H' D = some (.lst (bs.map V.ref)) ∧ bs.length = ((xs.take i).map h).length ∧ (∀ j b, bs[j]? = some b → A' (cs.length + j) = [b]) ∧ G' D = none ∧ (∀ k c, (cs ++ lstC ((xs.take i).map h))[k]? = some (some c) → D ∉ A' k)
  refine ⟨fun i m H' => m = xs.length - i ∧ i ≤ xs.length ∧ Pv i H', ⟨xs.length, by simp, Nat.zero_le _, ?_⟩, ?_⟩
  · refine ⟨G1, A1, [], Ex.refl _, AEx.refl _ _, ?_, upd_same, rfl, fun j b q => by simp at q, gD, fun k c q => ?_⟩
    · have := w1.side (o := .lst []) gD fD (fun k c q => w1.fresh_own hD q)
      simpa using this
    · simp at q
      exact w1.fresh_own hD q
  rintro i m H2 ⟨rfl, hi2, G2, A2, bs, e2, a2, w2, hH, hbl, hbA, g2, n2⟩
  have eG : Ex G1 H2 := e2.trans w2.gh
  by_cases hlt : i < xs.length
  · refine .inr ⟨it.go i H2 eG hlt, Pv (i + 1), fun H' p => ⟨xs.length - (i + 1), by omega, rfl, hlt, p⟩, fun x H3 hy => ?_⟩
    obtain ⟨y, hy2⟩ : ∃ y, xs[i]? = some y := ⟨xs[i], by simp [hlt]⟩
    have hym : y ∈ xs := List.mem_of_getElem? hy2
    obtain ⟨ds', hf, he⟩ := e y hym
    obtain ⟨G3, e3, w3, okx, hH3, g3⟩ : ∃ G3, Ex G2 G3 ∧ W G3 A2 (cs ++ lstC ((xs.take i).map h)) fr H3 ∧ Dt G3 x y ∧ H3 D = some (.lst (bs.map V.ref)) ∧ G3 D = none := by
      rcases it.yld i H2 x H3 eG hy y hy2 with ⟨h1, h2⟩ | ⟨T0, us, es, h1, h2, h3, h4, h5⟩
      · exact ⟨G2, Ex.refl _, by rw [h1]; exact w2, h2.mono e2, by rw [h1]; exact hH, g2⟩
      · obtain ⟨w', ex⟩ := w2.new (o := .tup us) h2
        have ne : D ≠ T0 := ne_of_none hH h2
        refine ⟨upd G2 T0 (.tup us), ex, by rw [h3]; exact w', ?_, by rw [h3, upd_ne ne]; exact hH, by rw [upd_ne ne]; exact g2⟩
        rw [h1, h5]
        exact .tup upd_same ((h4.mono e2).mono ex)
    have l2 : cs.length ≤ (cs ++ lstC ((xs.take i).map h)).length := by simp
    have slw : Sl X.K G3 A2 (cs ++ lstC ((xs.take i).map h)).length (wipe σ vs0) (wipeD ds vs0) := (sl.mono (e1.trans (e2.trans e3)) (a1.trans a2 (Nat.le_refl _)) l2).wipe _
    refine gd x y _ H3 _ _ ds' G3 A2 _ slw w3.gh okx hf fun σ2 sl2 so => ⟨?_, ?_⟩
    · rw [wipe_off so hj, wipe_wipe]
    have wg := w3.guard hH3 g3 fD n2
    refine (iteT (B := Pv (i + 1) H3) ?_ : if true = true then _ else Pv (i + 1) H3)
    refine ⟨(y, ⟨(xs.take i).map h, ds'⟩), ⟨hym, hf⟩, G3, A2, upd fr D (.lst (bs.map V.ref)), wg, sl2, fun v sv cs5 G5 A5 H5 ⟨hcs5, hsv⟩ e5 a5 l5 w5 ok5 => ?_⟩
    subst hsv hcs5
    obtain ⟨w5', hH5, g5, n5⟩ := w5.unguard fD
    obtain ⟨_, b, l, hb, rfl⟩ := ok5
    have etk : (xs.take (i + 1)).map h = (xs.take i).map h ++ [h y] := take_succ_map h hy2
    have ecs : cs ++ lstC ((xs.take i).map h) ++ [some (.lst (h y))] = cs ++ lstC ((xs.take (i + 1)).map h) := by rw [etk]; simp [lstC]
    rw [ecs] at w5' n5
    have hll : (cs ++ lstC ((xs.take i).map h)).length = cs.length + bs.length := by rw [hbl]; simp
    have hcell : ∃ (vs : List V), A5 (cs.length + bs.length) = [b] ∧ True := by
      have q : (cs ++ lstC ((xs.take (i + 1)).map h))[(cs ++ lstC ((xs.take i).map h)).length]? = some (some (.lst (h y))) := by rw [← ecs]; simp
      obtain ⟨a, vs, ea, _, _⟩ := w5'.cell _ _ q
      rw [hll] at ea hb
      rw [ea] at hb
      cases hb
      exact ⟨vs, ea, trivial⟩
    obtain ⟨_, hAb, _⟩ := hcell
    have hxl : xs.length ≤ 1000000 := hz
    have hbl2 : bs.length ≤ i := by rw [hbl]; simp; omega
    refine ⟨bs.map V.ref, hH5, by rw [List.length_map]; omega, G5, A5, bs ++ [b], e2.trans (e3.trans e5), a2.trans a5 l2, w5'.side g5 fD n5, by rw [upd_same]; simp, by rw [etk]; simp [hbl], fun j c q => ?_, g5, n5⟩
    by_cases hjb : j < bs.length
    · rw [List.getElem?_append_left hjb] at q
      rw [a5 (cs.length + j) (by rw [hll]; omega)]
      exact hbA j c q
    · rw [List.getElem?_append_right (by omega)] at q
      have hk0 : j - bs.length = 0 := by
        cases e : j - bs.length with
        | zero => rfl
        | succ m => rw [e] at q; simp at q
      rw [hk0] at q
      simp at q
      have : j = bs.length := by omega
      rw [this, hAb, q]
  · have ei : i = xs.length := by omega
    subst ei
    refine .inl ⟨it.stop _ H2 eG (Nat.le_refl _), ?_⟩
    rw [List.take_length] at w2 n2 hbl
    obtain ⟨w3, a3⟩ := w2.merge hbl hbA hH g2 fD n2
    exact go _ _ _ _ _ H2 hd (e1.trans e2) ((a1.trans a2 (Nat.le_refl _)).trans a3 (Nat.le_refl _)) (by simp) w3 ⟨by simp, D, bs, if_pos rfl, rfl⟩
theorem pd_lcM (hi : PVI X ds cs tg iter xs) (ok : BlkOk X.N X.env.scope scope own) (hg : Blk X scope fun X' => PG X' tg g) (gd : GD X.K g js f) (hj : ∀ j ∈ js, j ∈ own.map (·.2))
    (e : LcMEach X elt scope (own.map (·.2)) ds cs xs f h) (hd : R (cs ++ [some (.mat (xs.map h))]) (.own cs.length)) (hz : xs.length ≤ 1000000) (hN : X.N.Nodup) (hc : X.calm = true := by rfl)
    (hs : ∀ x, foldedSetIterable iter X.env x = pure x := by intro _; rfl) : PD X ds cs (.ListComp elt [⟨tg, iter, [], 0⟩] scope pos) R :=
  pe_imp (pe_lc hc hN hi ok hg (fun _ _ _ _ _ => pts_nil) e.pe hs) fun σ H Q h => lcm_red gd hj e hd hz h
theorem sd_asgLcM {x : Str} {p1 lp : Pos} {rest : List Stmt} {P : DE} (i : Nat) (hi : PVI X ds cs tg iter xs) (ok : BlkOk X.N X.env.scope scope own) (hg : Blk X scope fun X' => PG X' tg g) (gd : GD X.K g js f) (hj : ∀ j ∈ js, j ∈ own.map (·.2))
    (e : LcMEach X elt scope (own.map (·.2)) ds cs xs f h) (hz : xs.length ≤ 1000000) (k : SD X (ds.set i (some (.own cs.length))) (cs ++ [some (.mat (xs.map h))]) rest P) (hN : X.N.Nodup) (hy : X.N[i]? = some x := by rfl) (hyl : X.env.scope.names.lookup x = some .local := by rfl)
    (hsw : swapsWith (.ListComp elt [⟨tg, iter, [], 0⟩] scope lp) (some (.Name x p1)) pos.line X.env = pure true := by exact sw_true rfl rfl rfl (by decide +kernel)) (hc : X.calm = true := by rfl)
    (hs : ∀ x, foldedSetIterable iter X.env x = pure x := by intro _; rfl) : SD X ds cs (.Assign [.Name x p1] (.ListComp elt [⟨tg, iter, [], 0⟩] scope lp) pos :: rest) P := by
  refine sd_cons (M := fun ds' cs' => cs' = cs ++ [some (.mat (xs.map h))] ∧ ds' = ds.set i (some (.own cs.length))) (ps_imp (ps_setLc hc hN hy hyl hsw hi ok hg (fun _ _ _ _ _ => pts_nil) e.pe hs) fun D σ H ⟨G, A, fr, w, sl, g⟩ => ?_) fun ds' cs' ⟨hr, e⟩ => by rw [e, hr]; exact k
  refine lcm_red (R := fun cs' sv => cs' = cs ++ [some (.mat (xs.map h))] ∧ sv = .own cs.length) gd hj e ⟨rfl, rfl⟩ hz ⟨G, A, fr, w, sl, fun v sv cs1 G1 A1 H1 ⟨r1, r2⟩ e1 a1 l1 w1 ok1 => ?_⟩
  subst r2
  exact g.nx _ _ _ _ _ _ ⟨r1, rfl⟩ e1 a1 l1 w1 ((sl.mono e1 a1 l1).set i ok1)
end
end DL
set_option Elab.async false
set_option linter.all false
set_option maxRecDepth 100000
set_option maxHeartbeats 4000000
/-! DL11: comparisons as tests; pairs as targets. -/
namespace DL
open PySem PySem.Spec PyProof.Rows L2
section
variable {X : Cx} {e a b c o : Expr} {es : List Expr} {pos : Pos} {ds : Slots} {cs : Cells} {i j : Int} {d : PyData}
theorem pvt_lt (ha : PV X ds cs a (.d (.int i))) (hb : PV X ds cs b (.d (.int j))) : PVT X ds cs (.Compare a [.Lt] [b] pos) (decide (i < j)) := pvt_cmp op_lt ha hb (od_I0 rfl ⟨rfl, rfl⟩)
theorem pvt_le (ha : PV X ds cs a (.d (.int i))) (hb : PV X ds cs b (.d (.int j))) : PVT X ds cs (.Compare a [.LtE] [b] pos) (decide (i ≤ j)) := pvt_cmp op_le ha hb (od_I0 rfl ⟨rfl, rfl⟩)
theorem pvt_gt (ha : PV X ds cs a (.d (.int i))) (hb : PV X ds cs b (.d (.int j))) : PVT X ds cs (.Compare a [.Gt] [b] pos) (decide (j < i)) := pvt_cmp op_gt ha hb (od_I0 rfl ⟨rfl, rfl⟩)
theorem pvt_ge (ha : PV X ds cs a (.d (.int i))) (hb : PV X ds cs b (.d (.int j))) : PVT X ds cs (.Compare a [.GtE] [b] pos) (decide (j ≤ i)) := pvt_cmp op_ge ha hb (od_I0 rfl ⟨rfl, rfl⟩)
theorem pvt_eqI (ha : PV X ds cs a (.d (.int i))) (hb : PV X ds cs b (.d (.int j))) : PVT X ds cs (.Compare a [.Eq] [b] pos) (decide (i = j)) :=
  pvt_cmp op_eq ha hb fun G A fr H v w Q W0 h1 h2 k => by
    cases h1; cases h2
    refine ⟨rfl, ?_⟩
    have e : decide (V.int i = V.int j) = decide (i = j) := by
      by_cases q : i = j
      · subst q; simp
      · rw [decide_eq_false q, decide_eq_false (fun z => q (V.int.inj z))]
    rw [e]
    exact k.here ⟨rfl, rfl⟩ W0 (.bl _)
theorem pvt_neI (ha : PV X ds cs a (.d (.int i))) (hb : PV X ds cs b (.d (.int j))) : PVT X ds cs (.Compare a [.NotEq] [b] pos) (!decide (i = j)) :=
  pvt_cmp op_ne ha hb fun G A fr H v w Q W0 h1 h2 k => by
    cases h1; cases h2
    refine ⟨rfl, ?_⟩
    have e : decide (V.int i = V.int j) = decide (i = j) := by
      by_cases q : i = j
      · subst q; simp
      · rw [decide_eq_false q, decide_eq_false (fun z => q (V.int.inj z))]
    rw [e]
    exact k.here ⟨rfl, rfl⟩ W0 (.bl _)
theorem pvt_eqB {p q : Bool} (ha : PV X ds cs a (.d (.bool p))) (hb : PV X ds cs b (.d (.bool q))) : PVT X ds cs (.Compare a [.Eq] [b] pos) (decide (p = q)) :=
  pvt_cmp op_eq ha hb fun G A fr H v w Q W0 h1 h2 k => by
    cases h1; cases h2
    refine ⟨rfl, ?_⟩
    have e : decide (V.bl p = V.bl q) = decide (p = q) := by
      by_cases z : p = q
      · subst z; simp
      · rw [decide_eq_false z, decide_eq_false (fun y => z (V.bl.inj y))]
    rw [e]
    exact k.here ⟨rfl, rfl⟩ W0 (.bl _)
theorem pvt_eqD {d1 d2 : PyData} (hu : X.A.units + 64 < cLine) (ha : PV X ds cs a (.d d1)) (hb : PV X ds cs b (.d d2)) (s1 : SeqAt.shaped d1 = true) (s2 : SeqAt.shaped d2 = true) : PVT X ds cs (.Compare a [.Eq] [b] pos) (PyData.eqv d1 d2) :=
  pvt_cmp (op_eqD hu) ha hb fun G A fr H v w Q W0 h1 h2 k => ⟨d1, d2, (Dt.mono W0.gh h1).dp, (Dt.mono W0.gh h2).dp, s1, s2, k.here ⟨rfl, rfl⟩ W0 (.bl _)⟩
theorem pvt_neD {d1 d2 : PyData} (hu : X.A.units + 64 < cLine) (ha : PV X ds cs a (.d d1)) (hb : PV X ds cs b (.d d2)) (s1 : SeqAt.shaped d1 = true) (s2 : SeqAt.shaped d2 = true) : PVT X ds cs (.Compare a [.NotEq] [b] pos) (!PyData.eqv d1 d2) :=
  pvt_cmp (op_neD hu) ha hb fun G A fr H v w Q W0 h1 h2 k => ⟨d1, d2, (Dt.mono W0.gh h1).dp, (Dt.mono W0.gh h2).dp, s1, s2, k.here ⟨rfl, rfl⟩ W0 (.bl _)⟩
theorem pvt_isN {d : PyData} {jj : Nat} {p2 : Pos} (ha : PV X ds cs a (.d d)) : PVT X ds cs (.Compare a [.Is] [.Constant .none jj p2] pos) (isNoneD d) :=
  pvt_cmp op_isN ha pv_non fun G A fr H v w Q W0 h1 h2 k => by
    cases h2
    refine ⟨rfl, ?_⟩
    rw [isNoneD_dt h1]
    exact k.here ⟨rfl, rfl⟩ W0 (.bl _)
theorem pvt_notN {d : PyData} {jj : Nat} {p2 : Pos} (ha : PV X ds cs a (.d d)) : PVT X ds cs (.Compare a [.IsNot] [.Constant .none jj p2] pos) (!isNoneD d) :=
  pvt_cmp op_notN ha pv_non fun G A fr H v w Q W0 h1 h2 k => by
    cases h2
    refine ⟨rfl, ?_⟩
    rw [isNoneD_dt h1]
    exact k.here ⟨rfl, rfl⟩ W0 (.bl _)
theorem pvt_isB {p q : Bool} (ha : PV X ds cs a (.d (.bool p))) (hb : PV X ds cs b (.d (.bool q))) : PVT X ds cs (.Compare a [.Is] [b] pos) (decide (p = q)) :=
  pvt_cmp op_isBl ha hb fun G A fr H v w Q W0 h1 h2 k => by
    cases h1; cases h2
    exact ⟨p, q, rfl, rfl, k.here ⟨rfl, rfl⟩ W0 (.bl _)⟩
theorem pvt_notinT {xs : List PyData} (ha : PV X ds cs a (.d d)) (hb : PV X ds cs b (.d (.tuple xs))) (f0 : flatB d = true) (f : ∀ x ∈ xs, flatB x = true) (hm : behindInMarks .NotIn b = false := by rfl) : PVT X ds cs (.Compare a [.NotIn] [b] pos) (!(xs.any fun y => PyData.eqv y d)) :=
  pvt_cmp op_notIn_seq ha hb (fun G A fr H v w Q W0 h1 h2 g => by
    obtain ⟨a1, ws1, rfl, hg1, hall1⟩ := dt_tup h2
    refine ⟨a1, ws1, rfl, .inr (SqT.of (W0.gh _ _ hg1)), flatV_of h1 f0, flats_of hall1 f, ?_⟩
    show Q (V.bl (if true = true then !inV v ws1 else inV v ws1)) H
    rw [if_pos rfl, inV_of h1 f0 hall1 f]
    exact g.here ⟨rfl, rfl⟩ W0 (.bl _)) hm
theorem pvt_inT {xs : List PyData} (ha : PV X ds cs a (.d d)) (hb : PV X ds cs b (.d (.tuple xs))) (f0 : flatB d = true) (f : ∀ x ∈ xs, flatB x = true) (hm : behindInMarks .In b = false := by rfl) : PVT X ds cs (.Compare a [.In] [b] pos) (xs.any fun y => PyData.eqv y d) :=
  pvt_cmp op_in_seq ha hb (fun G A fr H v w Q W0 h1 h2 g => by
    obtain ⟨a1, ws1, rfl, hg1, hall1⟩ := dt_tup h2
    refine ⟨a1, ws1, rfl, .inr (SqT.of (W0.gh _ _ hg1)), flatV_of h1 f0, flats_of hall1 f, ?_⟩
    show Q (V.bl (if false = true then !inV v ws1 else inV v ws1)) H
    rw [if_neg Bool.false_ne_true, inV_of h1 f0 hall1 f]
    exact g.here ⟨rfl, rfl⟩ W0 (.bl _)) hm


theorem pg_pair {X : Cx} {x y : Str} {px py pt : Pos} {kt : Nat} (i j : Nat) (hN : X.N.Nodup) (hi : X.N[i]? = some x := by rfl) (hj : X.N[j]? = some y := by rfl) (hx : Loc X.env.scope x := by first | exact Or.inl rfl | exact Or.inr rfl) (hy : Loc X.env.scope y := by first | exact Or.inl rfl | exact Or.inr rfl)
    (hfx : X.fn x = true ∨ X.env.scope.names.lookup x = some .local := by first | exact .inl rfl | exact .inr rfl) (hfy : X.fn y = true ∨ X.env.scope.names.lookup y = some .local := by first | exact .inl rfl | exact .inr rfl) (hc : X.calm = true := by rfl) : PG X (.Tuple [.Name x px, .Name y py] kt pt) (gTup X.K 2 (gCons (gName i) (gCons (gName j) gNil))) :=
  pg_tup (n := 2) hc (pgs_cons (pg_name (i := i) hN hi hx hfx) (pgs_cons (pg_name (i := j) hN hj hy hfy) pgs_nil))
end
end DL
set_option Elab.async false
set_option linter.all false
set_option maxRecDepth 100000
set_option maxHeartbeats 4000000
namespace K69
open PySem PySem.Spec PyProof.Rows L2 DL

def topS (i : Nat) : Stmt := PySem.Challenge.pw_polytopebench_k69_sums_of_permutations_j.main.body.getD i (.Pass ⟨0, 0, 0, 0⟩)
/-- a def of the text, as it stands behind the top -/
structure Def (K : PySem.W.Frag) (mg : Str → Option Value) (x : String) (st : Stmt) (ps : List Str) where
  f : Addr
  fd : FuncData
  F : Fun K (Str.ofString x) x st f fd
  m : mg (Str.ofString x) = some (.ref f)
  b : Binds K fd ps []
/-- the built-in names that nothing of the module hides -/
structure Bl (mg : Str → Option Value) : Prop where
  isinstance : mg "isinstance" = none
  int : mg "int" = none
  bool : mg "bool" = none
  str : mg "str" = none
  dict : mg "dict" = none
  list : mg "list" = none
  tuple : mg "tuple" = none
  len : mg "len" = none
  sum : mg "sum" = none
  min : mg "min" = none
  max : mg "max" = none
  abs : mg "abs" = none
  all : mg "all" = none
  any : mg "any" = none
  set : mg "set" = none
  zip : mg "zip" = none
  enumerate : mg "enumerate" = none
  range : mg "range" = none
  sorted : mg "sorted" = none

abbrev s4 : Stmt := topS 4
abbrev s5 : Stmt := topS 5
abbrev s6 : Stmt := topS 6
abbrev s7 : Stmt := topS 7
abbrev s8 : Stmt := topS 8
abbrev s11 : Stmt := topS 11
theorem sc4 : FnScope ["value"] ["value"] (defScope s4) := ⟨rfl, rfl, rfl, by decide +kernel, rfl, by decide +kernel, by decide +kernel⟩
theorem sc5 : FnScope ["value", "low", "high"] ["value", "low", "high"] (defScope s5) := ⟨rfl, rfl, rfl, by decide +kernel, rfl, by decide +kernel, by decide +kernel⟩
theorem sc6 : FnScope ["value", "many"] ["value", "many"] (defScope s6) := ⟨rfl, rfl, rfl, by decide +kernel, rfl, by decide +kernel, by decide +kernel⟩
theorem sc7 : FnScope ["value"] ["value"] (defScope s7) := ⟨rfl, rfl, rfl, by decide +kernel, rfl, by decide +kernel, by decide +kernel⟩
theorem sc8 : FnScope ["value", "many"] ["value", "many"] (defScope s8) := ⟨rfl, rfl, rfl, by decide +kernel, rfl, by decide +kernel, by decide +kernel⟩
theorem sc11 : FnScope ["value"] ["value"] (defScope s11) := ⟨rfl, rfl, rfl, by decide +kernel, rfl, by decide +kernel, by decide +kernel⟩

/-! ### mirrors -/
def isInt : PyData → Bool
  | .int _ => true
  | _ => false
theorem isInt_eq (d : PyData) : (isD "int" d && !isD "bool" d) = isInt d := by cases d <;> simp [isD, isT, tyD, isInt]
def within (d : PyData) (lo hi : Int) : Bool := match d with
  | .int i => decide (lo ≤ i) && decide (i ≤ hi)
  | _ => false
def f4 : List SV → PyData → Prop := fun xs d => ∃ x, xs = [.d x] ∧ d = .bool (isInt x)
def f5 : List SV → PyData → Prop := fun xs d => ∃ x lo hi, xs = [.d x, .d (.int lo), .d (.int hi)] ∧ d = .bool (within x lo hi)
def f6 : List SV → PyData → Prop := fun xs d => ∃ x n, xs = [.d x, .d (.int n)] ∧ d = .bool (within x 0 (n - 1))
def isSeq : PyData → Bool
  | .list _ => true
  | .tuple _ => true
  | _ => false
def isTup : PyData → Bool
  | .tuple _ => true
  | _ => false
def tupLen (n : Int) : PyData → Bool
  | .tuple xs => decide ((xs.length : Int) = n)
  | _ => false
def f7 : List SV → PyData → Prop := fun xs d => ∃ x, xs = [.d x] ∧ d = .bool (isSeq x)
def f8 : List SV → PyData → Prop := fun xs d => ∃ x n, xs = [.d x, .d (.int n)] ∧ d = .bool (tupLen n x)
def isNum : PyData → Bool
  | .int i => decide (0 ≤ i)
  | _ => false
def f11 : List SV → PyData → Prop := fun xs d => ∃ x, xs = [.d x] ∧ d = .bool (isNum x)
section
variable {P : Program} {w : World} {K : PySem.W.Frag} {mg : Str → Option Value} {base : Heap}
theorem ok4 (B : Bl mg) (D : Def K mg "is_integer" s4 ["value"]) : FnOk P w K mg base CX0 1 D.f D.fd ["value"] (spD K (PureS f4)) := by
  refine fn_def D.F sc4 (fun xs cs R ⟨_, _, d, ⟨x, e, _⟩, _⟩ => by rw [e]; rfl) fun cdv A outer s H E xs cs R hr ⟨hcs, _, d, ⟨x, hx, hd⟩, hR⟩ => ?_
  subst hcs hx hd
  refine sd_ret (PV.pd (pv_and (pv_isi "int" (.inl rfl) B.isinstance B.int (by decide +kernel) (pv_var 0)) fun _ => pd_last (pv_not (pv_isi "bool" (.inr (.inl rfl)) B.isinstance B.bool (by decide +kernel) (pv_var 0)))) ?_)
  rw [isInt_eq]
  exact hR
theorem ok5 (D4 : Def K mg "is_integer" s4 ["value"]) (F4 : FnOk P w K mg base CX0 1 D4.f D4.fd ["value"] (spD K (PureS f4))) (D : Def K mg "is_within" s5 ["value", "low", "high"]) : FnOk P w K mg base CX0 2 D.f D.fd ["value", "low", "high"] (spD K (PureS f5)) := by
  refine fn_def D.F sc5 (fun xs cs R ⟨_, _, d, ⟨x, lo, hi, e, _⟩, _⟩ => by rw [e]; rfl) fun cdv A outer s H E xs cs R hr ⟨hcs, _, d, ⟨x, lo, hi, hx, hd⟩, hR⟩ => ?_
  subst hcs hx hd
  cases x
  case int i => (refine sd_ret (PV.pd (pv_and (pv_call F4 (hr.mono (by decide)) D4.m D4.F.kp D4.b (pva_cons (pv_var 0) pva_nil) ⟨_, rfl, rfl⟩) fun _ => pd_last (pv_chain op_le op_le (pv_var 1) (pv_var 0) (fun _ => pv_var 2) (od_I0 rfl ⟨rfl, rfl⟩) fun _ => od_I0 rfl ⟨rfl, rfl⟩)) ?_); exact hR)
  all_goals (refine sd_ret (PV.pd (pv_and (q := false) (pv_call F4 (hr.mono (by decide)) D4.m D4.F.kp D4.b (pva_cons (pv_var 0) pva_nil) ⟨_, rfl, rfl⟩) fun h => by simp [isInt] at h) ?_); exact hR)
theorem ok6 (D5 : Def K mg "is_within" s5 ["value", "low", "high"]) (F5 : FnOk P w K mg base CX0 2 D5.f D5.fd ["value", "low", "high"] (spD K (PureS f5))) (D : Def K mg "is_index" s6 ["value", "many"]) : FnOk P w K mg base CX0 3 D.f D.fd ["value", "many"] (spD K (PureS f6)) := by
  refine fn_def D.F sc6 (fun xs cs R ⟨_, _, d, ⟨x, n, e, _⟩, _⟩ => by rw [e]; rfl) fun cdv A outer s H E xs cs R hr ⟨hcs, _, d, ⟨x, n, hx, hd⟩, hR⟩ => ?_
  subst hcs hx hd
  refine sd_ret (PV.pd (pv_call F5 (hr.mono (by decide)) D5.m D5.F.kp D5.b (pva_cons (pv_var 0) (pva_cons pv_int (pva_cons (pv_sub (pv_var 1) pv_int) pva_nil))) ⟨_, _, _, rfl, rfl⟩) ?_)
  exact hR
theorem ok7 (B : Bl mg) (D : Def K mg "is_list" s7 ["value"]) : FnOk P w K mg base CX0 1 D.f D.fd ["value"] (spD K (PureS f7)) := by
  refine fn_def D.F sc7 (fun xs cs R ⟨_, _, d, ⟨x, e, _⟩, _⟩ => by rw [e]; rfl) fun cdv A outer s H E xs cs R hr ⟨hcs, _, d, ⟨x, hx, hd⟩, hR⟩ => ?_
  subst hcs hx hd
  refine sd_ret (PV.pd (pv_isi2 "list" "tuple" (.inr (.inr (.inr (.inr (.inl rfl))))) (.inr (.inr (.inr (.inr (.inr rfl))))) B.isinstance B.list (by decide +kernel) B.tuple (by decide +kernel) (pv_var 0)) ?_)
  have e : (isD "list" x || isD "tuple" x) = isSeq x := by cases x <;> simp [isD, isT, tyD, isSeq]
  rw [e]
  exact hR
theorem ok8 (B : Bl mg) (D : Def K mg "is_tuple" s8 ["value", "many"]) : FnOk P w K mg base CX0 1 D.f D.fd ["value", "many"] (spD K (PureS f8)) := by
  refine fn_def D.F sc8 (fun xs cs R ⟨_, _, d, ⟨x, n, e, _⟩, _⟩ => by rw [e]; rfl) fun cdv A outer s H E xs cs R hr ⟨hcs, _, d, ⟨x, n, hx, hd⟩, hR⟩ => ?_
  subst hcs hx hd
  have ht : ∀ y : PyData, isD "tuple" y = isTup y := fun y => by cases y <;> simp [isD, isT, tyD, isTup]
  cases x
  case tuple ys =>
    refine sd_ret (PV.pd (pv_and (pv_isi "tuple" (.inr (.inr (.inr (.inr (.inr rfl))))) B.isinstance B.tuple (by decide +kernel) (pv_var 0)) fun _ => pd_last (pv_eqI (pv_lenT B.len (pva_cons (pv_var 0) pva_nil)) (pv_var 1))) ?_)
    rw [ht]
    exact hR
  all_goals
    refine sd_ret (PV.pd (pv_and (q := false) (pv_isi "tuple" (.inr (.inr (.inr (.inr (.inr rfl))))) B.isinstance B.tuple (by decide +kernel) (pv_var 0)) fun h => by rw [ht] at h; simp [isTup] at h) ?_)
    rw [ht]
    exact hR
theorem ok11 (D4 : Def K mg "is_integer" s4 ["value"]) (F4 : FnOk P w K mg base CX0 1 D4.f D4.fd ["value"] (spD K (PureS f4))) (D : Def K mg "is_number" s11 ["value"]) : FnOk P w K mg base CX0 2 D.f D.fd ["value"] (spD K (PureS f11)) := by
  refine fn_def D.F sc11 (fun xs cs R ⟨_, _, d, ⟨x, e, _⟩, _⟩ => by rw [e]; rfl) fun cdv A outer s H E xs cs R hr ⟨hcs, _, d, ⟨x, hx, hd⟩, hR⟩ => ?_
  subst hcs hx hd
  cases x
  case int i => (refine sd_ret (PV.pd (pv_and (pv_call F4 (hr.mono (by decide)) D4.m D4.F.kp D4.b (pva_cons (pv_var 0) pva_nil) ⟨_, rfl, rfl⟩) fun _ => pd_last (pv_ge (pv_var 0) pv_int)) ?_); exact hR)
  all_goals (refine sd_ret (PV.pd (pv_and (q := false) (pv_call F4 (hr.mono (by decide)) D4.m D4.F.kp D4.b (pva_cons (pv_var 0) pva_nil) ⟨_, rfl, rfl⟩) fun h => by simp [isInt] at h) ?_); exact hR)
end
end K69
set_option Elab.async false
set_option linter.all false
set_option maxRecDepth 100000
set_option maxHeartbeats 4000000
namespace K69
open PySem PySem.Spec PyProof.Rows L2 DL
abbrev s12 : Stmt := topS 12
abbrev s13 : Stmt := topS 13
theorem sc12 : FnScope ["square", "item", "line"] ["square"] (defScope s12) := ⟨rfl, rfl, rfl, by decide +kernel, rfl, by decide +kernel, by decide +kernel⟩
def rowD (r : List Int) : PyData := .tuple (r.map .int)
def sqD (rs : List (List Int)) : PyData := .tuple (rs.map rowD)
/-- a square of at most six lines of ints from 0 on -/
structure SqOk (rs : List (List Int)) : Prop where
  pos : 1 ≤ rs.length
  six : rs.length ≤ 6
  len : ∀ r ∈ rs, r.length = rs.length
  nn : ∀ r ∈ rs, ∀ x ∈ r, 0 ≤ x
def f12 : List SV → PyData → Prop := fun xs d => ∃ rs, SqOk rs ∧ xs = [.d (sqD rs)] ∧ d = .none
section
variable {P : Program} {w : World} {K : PySem.W.Frag} {mg : Str → Option Value} {base : Heap}
theorem ok12 (B : Bl mg) {t : Tok} (hM : mg "MOST_LINES" = some (.int 6 t)) (D8 : Def K mg "is_tuple" s8 ["value", "many"]) (F8 : FnOk P w K mg base CX0 1 D8.f D8.fd ["value", "many"] (spD K (PureS f8))) (D11 : Def K mg "is_number" s11 ["value"]) (F11 : FnOk P w K mg base CX0 2 D11.f D11.fd ["value"] (spD K (PureS f11)))
    (D : Def K mg "check_square" s12 ["square"]) : FnOk P w K mg base CX0 3 D.f D.fd ["square"] (spD K (PureS f12)) := by
  refine fn_def D.F sc12 (fun xs cs R ⟨_, _, d, ⟨x, _, e, _⟩, _⟩ => by rw [e]; rfl) fun cdv A outer s H E xs cs R hr ⟨hcs, _, d, ⟨rs, ok, hx, hd⟩, hR⟩ => ?_
  subst hcs hx hd
  refine sd_ifNo (PVT.eq (pvt_or (pvt_not (pvt_val (pv_isi "tuple" (.inr (.inr (.inr (.inr (.inr rfl))))) B.isinstance B.tuple (by decide +kernel) (pv_var 0)))) fun _ => pvw_or1 (pvt_not (pvt_chain op_le op_le pv_int (pv_lenT B.len (pva_cons (pv_var 0) pva_nil)) (fun _ => pv_glob hM) (od_I0 rfl ⟨rfl, rfl⟩) fun _ => od_I0 rfl ⟨rfl, rfl⟩))) ?_) ?_
  · have h1 := ok.pos
    have h2 := ok.six
    have a : decide ((1 : Int) ≤ ((rs.map rowD).length : Nat)) = true := decide_eq_true (by rw [List.length_map]; omega)
    have b : decide (((rs.map rowD).length : Nat) ≤ (6 : Int)) = true := decide_eq_true (by rw [List.length_map]; omega)
    rw [a, b]
    rfl
  refine sd_ifNo (PVT.eq (pvt_not (pvt_val (pv_allL (bs := rs.map fun _ => true) B.all (pva_cons (PV.eq (pv_lc (own := [("line", 2)]) (g := gName 2) (h := fun _ => .bool true) (pvi_tup (pv_var 0)) (blkOk_by (by kernel_rfl)) (fun _ _ _ _ _ => pg_name (i := 2) sc12.nd rfl (Or.inl rfl)) gd_name (by decide) (fun x hx => ⟨_, rfl, fun s H C cl fp => ?_⟩) ?_ sc12.nd) ?_) pva_nil)))) ?_) ?_
  · obtain ⟨r, hr1, rfl⟩ := List.mem_map.mp hx
    refine PV.eq (pv_and (pv_call F8 (hr.mono (by decide)) D8.m D8.F.kp D8.b (pva_cons (pv_var 2) (pva_cons (pv_lenT B.len (pva_cons (pv_var 0) pva_nil)) pva_nil)) ⟨_, _, rfl, rfl⟩) fun _ => pd_last (pv_allL (bs := r.map fun _ => true) B.all (pva_cons (PV.eq (pv_lc (own := [("item", 1)]) (g := gName 1) (h := fun _ => .bool true) (pvi_tup (pv_var 2)) (blkOk_by (by kernel_rfl)) (fun _ _ _ _ _ => pg_name (i := 1) sc12.nd rfl (Or.inl rfl)) gd_name (by decide) (fun y hy => ⟨_, rfl, fun s H C cl fp => ?_⟩) ?_ sc12.nd) ?_) pva_nil))) ?_
    · obtain ⟨n, hn, rfl⟩ := List.mem_map.mp hy
      refine PV.eq (pv_call F11 (hr.mono (by decide)) D11.m D11.F.kp D11.b (pva_cons (pv_var 1) pva_nil) ⟨_, rfl, rfl⟩) ?_
      have e : isNum (.int n) = true := decide_eq_true (ok.nn r hr1 n hn)
      rw [e]
    · rw [List.length_map, ok.len r hr1]
      exact Nat.le_trans ok.six (by decide)
    · rw [List.map_map, List.map_map]
      rfl
    · have e : tupLen (((rs.map rowD).length : Nat) : Int) (rowD r) = true := decide_eq_true (by rw [List.length_map, List.length_map, ok.len r hr1])
      rw [e]
      have e2 : ((r.map fun _ => true).all id) = true := by simp
      rw [e2]
      rfl
  · rw [List.length_map]
    exact Nat.le_trans ok.six (by decide)
  · rw [List.map_map, List.map_map]
    rfl
  · simp
  exact sd_nil hR
end
end K69
set_option Elab.async false
set_option linter.all false
set_option maxRecDepth 100000
set_option maxHeartbeats 4000000
namespace K69
open PySem PySem.Spec PyProof.Rows L2 DL
theorem sc13 : FnScope ["square", "sums", "line", "column"] ["square"] (defScope s13) := ⟨rfl, rfl, rfl, by decide +kernel, rfl, by decide +kernel, by decide +kernel⟩
def ddp : List Int → List Int
  | [] => []
  | x :: xs => if x ∈ ddp xs then ddp xs else x :: ddp xs
theorem ddp_mem (k : Int) : ∀ xs, k ∈ ddp xs ↔ k ∈ xs
  | [] => Iff.rfl
  | x :: xs => by
    unfold ddp
    have ih := ddp_mem k xs
    split
    · rename_i h
      rw [ih, List.mem_cons]
      constructor
      · exact .inr
      · rintro (rfl | h2)
        · exact (ddp_mem k xs).mp h
        · exact h2
    · rw [List.mem_cons, List.mem_cons, ih]
theorem ddp_nodup : ∀ xs, (ddp xs).Nodup
  | [] => List.nodup_nil
  | x :: xs => by
    unfold ddp
    split
    · exact ddp_nodup xs
    · rename_i h
      exact List.nodup_cons.mpr ⟨h, ddp_nodup xs⟩
/-- the columns -/
def colsL (rs : List (List Int)) : List (List Int) := (List.range rs.length).map fun i => rs.map fun r => r.getD i 0
def sumsL (rs : List (List Int)) : List Int := rs.map List.sum ++ (colsL rs).map List.sum
def evenB (rs : List (List Int)) : Bool := decide ((ddp (sumsL rs)).length = 1)
theorem col_rows {rs : List (List Int)} {n : Nat} (hl : ∀ r ∈ rs, r.length = n) (hn : n = rs.length) : colD (rs.map fun r => r.map PyData.int) n = (colsL rs).map rowD := by
  subst hn
  unfold colD colsL
  rw [List.map_map]
  apply List.map_congr_left
  intro i hi
  have hi' := List.mem_range.mp hi
  show PyData.tuple _ = rowD _
  unfold rowD
  congr 1
  rw [List.map_map, List.map_map]
  apply List.map_congr_left
  intro r hr
  have := hl r hr
  have hlt : i < r.length := by omega
  simp [List.getD_eq_getElem?_getD, hlt]
def f13 : List SV → PyData → Prop := fun xs d => ∃ rs, SqOk rs ∧ xs = [.d (sqD rs)] ∧ d = .bool (evenB rs)
theorem sqD_rows (rs : List (List Int)) : sqD rs = .tuple ((rs.map fun r => r.map PyData.int).map .tuple) := by
  unfold sqD
  rw [List.map_map]; rfl
section
variable {P : Program} {w : World} {K : PySem.W.Frag} {mg : Str → Option Value} {base : Heap}
theorem ok13 (B : Bl mg) (D : Def K mg "is_even" s13 ["square"]) : FnOk P w K mg base CX0 1 D.f D.fd ["square"] (spD K (PureS f13)) := by
  refine fn_def D.F sc13 (fun xs cs R ⟨_, _, d, ⟨x, _, e, _⟩, _⟩ => by rw [e]; rfl) fun cdv A outer s H E xs cs R hr ⟨hcs, _, d, ⟨rs, ok, hx, hd⟩, hR⟩ => ?_
  subst hcs hx hd
  have h1 := ok.pos
  have h2 := ok.six
  have hc : (colsL rs).length = rs.length := by simp [colsL]
  have zl : (1000000 : Nat) ≤ sizeLine := by decide
  refine sd_asg 1 (sv := .d (.list ((sumsL rs).map .int))) (PV.eq (pv_catL
    (pv_lc (own := [("line", 2)]) (g := gName 2) (h := fun x => match x with | .tuple ys => .int (ys.map fun y => match y with | .int i => i | _ => 0).sum | _ => .none) (pvi_tup (pv_var 0)) (blkOk_by (by kernel_rfl)) (fun _ _ _ _ _ => pg_name (i := 2) sc13.nd rfl (Or.inl rfl)) gd_name (by decide) (fun x hx => ⟨_, rfl, fun s H C cl fp => ?_⟩) ?_ sc13.nd)
    (pv_lc (own := [("column", 3)]) (g := gName 3) (h := fun x => match x with | .tuple ys => .int (ys.map fun y => match y with | .int i => i | _ => 0).sum | _ => .none) (pvi_zip (rows := rs.map fun r => r.map PyData.int) (n := rs.length) B.zip (PV.eq (pv_var 0) (congrArg SV.d (sqD_rows rs))) ?_ ?_ ?_) (blkOk_by (by kernel_rfl)) (fun _ _ _ _ _ => pg_name (i := 3) sc13.nd rfl (Or.inl rfl)) gd_name (by decide) (fun x hx => ⟨_, rfl, fun s H C cl fp => ?_⟩) ?_ sc13.nd) ?_) ?_) ?_ sc13.nd
  · obtain ⟨r, hr1, rfl⟩ := List.mem_map.mp hx
    refine PV.eq (pv_sumT (ns := r) B.sum (pva_cons (pv_var 2) pva_nil)) ?_
    simp [rowD, List.map_map, Function.comp_def]
  · rw [List.length_map]; omega
  · intro e
    rw [List.map_eq_nil_iff] at e
    rw [e] at h1; simp at h1
  · rw [List.length_map]; exact h2
  · intro r hr1
    obtain ⟨q, hq, rfl⟩ := List.mem_map.mp hr1
    rw [List.length_map]; exact ok.len q hq
  · rw [col_rows ok.len rfl] at hx
    obtain ⟨r, hr1, rfl⟩ := List.mem_map.mp hx
    refine PV.eq (pv_sumT (ns := r) B.sum (pva_cons (pv_var 3) pva_nil)) ?_
    simp [rowD, List.map_map, Function.comp_def]
  · rw [colD_length]; omega
  · rw [List.length_map, List.length_map, List.length_map, colD_length]; omega
  · rw [col_rows ok.len rfl]
    congr 2
    simp [sumsL, List.map_map, Function.comp_def, rowD]
  refine sd_ret (PV.pd (pv_eqI (pv_lenSet (ddp (sumsL rs)) B.len B.set (.inl (pv_var 1)) ?_ (ddp_nodup _) (fun k => ddp_mem k _)) pv_int) ?_)
  · simp [sumsL, hc]; omega
  have e : decide (((ddp (sumsL rs)).length : Int) = 1) = evenB rs := by
    unfold evenB
    exact decide_eq_decide.mpr (by omega)
  rw [e]
  exact hR
end
end K69
set_option Elab.async false
set_option linter.all false
set_option maxRecDepth 100000
set_option maxHeartbeats 4000000
namespace K69
open PySem PySem.Spec PyProof.Rows L2 DL
abbrev s14 : Stmt := topS 14
theorem sc14 : FnScope ["square", "found", "line", "some", "k", "item"] ["square"] (defScope s14) := ⟨rfl, rfl, rfl, by decide +kernel, rfl, by decide +kernel, by decide +kernel⟩
/-- a list of places as a tuple -/
def tupN (s : List Nat) : PyData := .tuple (s.map fun k => .int (k : Nat))
def stepW (found : List (List Nat)) (line : List Int) : List (List Nat) := found.flatMap fun s => (line.zipIdx.filter fun p => decide (0 < p.1) && !s.contains p.2).map fun p => s ++ [p.2]
/-- permutations_within -/
def permW (rows : List (List Int)) : List (List Nat) := rows.foldl stepW [[]]
def matD (rows : List (List Int)) : PyData := .list (rows.map fun r => .list (r.map .int))
def f14 : List SV → PyData → Prop := fun xs d => ∃ rows, rows.length ≤ 6 ∧ (∀ r ∈ rows, r.length ≤ 6) ∧ xs = [.d (matD rows)] ∧ d = .list ((permW rows).map tupN)
/-- the test, the element of the comprehension, over data -/
def pW : PyData → PyData → Bool
  | .tuple ss, .tuple [k, .int item] => decide (0 < item) && !(ss.any fun y => PyData.eqv y k)
  | _, _ => false
def hW : PyData → PyData → PyData
  | .tuple ss, .tuple [k, _] => .tuple (ss ++ [k])
  | _, _ => .none
theorem stepW_len {found : List (List Nat)} {line : List Int} (h : line.length ≤ 6) : (stepW found line).length ≤ found.length * 6 := by
  induction found with
  | nil => simp [stepW]
  | cons s found ih =>
    have e : stepW (s :: found) line = ((line.zipIdx.filter fun p => decide (0 < p.1) && !s.contains p.2).map fun p => s ++ [p.2]) ++ stepW found line := by simp [stepW]
    rw [e, List.length_append, List.length_map, List.length_cons]
    have h1 := List.length_filter_le (fun p : Int × Nat => decide (0 < p.1) && !s.contains p.2) line.zipIdx
    have h2 : line.zipIdx.length = line.length := by simp
    omega
theorem permW_len {rows : List (List Int)} (h : ∀ r ∈ rows, r.length ≤ 6) : ∀ (found : List (List Nat)), (rows.foldl stepW found).length ≤ found.length * 6 ^ rows.length := by
  induction rows with
  | nil => intro found; simp
  | cons r rows ih =>
    intro found
    have h1 := ih (fun q hq => h q (by simp [hq])) (stepW found r)
    have h2 := stepW_len (found := found) (h r (by simp))
    have h3 : (stepW found r).length * 6 ^ rows.length ≤ found.length * 6 * 6 ^ rows.length := Nat.mul_le_mul_right _ h2
    rw [List.foldl_cons, List.length_cons, Nat.pow_succ]
    have h4 : found.length * (6 ^ rows.length * 6) = found.length * 6 * 6 ^ rows.length := by rw [Nat.mul_assoc, Nat.mul_comm 6]
    omega
theorem stepW_mem {found : List (List Nat)} {line : List Int} {t : List Nat} (h : t ∈ stepW found line) : ∃ s ∈ found, ∃ k, t = s ++ [k] := by
  unfold stepW at h
  obtain ⟨s, hs, h⟩ := List.mem_flatMap.mp h
  obtain ⟨p, _, rfl⟩ := List.mem_map.mp h
  exact ⟨s, hs, p.2, rfl⟩
theorem permW_mem {m : Nat} : ∀ {rows : List (List Int)} {found : List (List Nat)}, (∀ s ∈ found, s.length = m) → ∀ t ∈ rows.foldl stepW found, t.length = m + rows.length
  | [], found, h, t, ht => h t ht
  | r :: rows, found, h, t, ht => by
    have := permW_mem (m := m + 1) (rows := rows) (found := stepW found r) (fun s hs => by
      obtain ⟨s', hs', k, rfl⟩ := stepW_mem hs
      rw [List.length_append, h s' hs']; rfl) t ht
    rw [List.length_cons]; omega
theorem any_eqv (s : List Nat) (k : Nat) : (s.map fun k => PyData.int (k : Nat)).any (fun y => PyData.eqv y (.int (k : Nat))) = s.contains k := by
  induction s with
  | nil => rfl
  | cons a s ih =>
    rw [List.map_cons, List.any_cons, ih, List.contains_cons]
    congr 1
    show decide ((a : Int) = (k : Nat)) = (k == a)
    by_cases h : a = k
    · subst h; simp
    · have h2 : ¬ (a : Int) = (k : Nat) := by omega
      have h3 : ¬ k = a := fun e => h e.symm
      simp [h2, h3]
theorem stepW_data (found : List (List Nat)) (line : List Int) : (found.map tupN).flatMap (lc2F (fun _ => enD (line.map .int)) pW hW) = (stepW found line).map tupN := by
  unfold stepW
  rw [List.flatMap_map, List.map_flatMap]
  congr 1
  funext s
  unfold lc2F enD
  rw [List.map_map, List.zipIdx_map, List.map_map, List.filter_map, List.map_map]
  have e1 : (pW (tupN s) ∘ ((fun p : PyData × Nat => PyData.tuple [.int (p.2 : Nat), p.1]) ∘ fun p : Int × Nat => Prod.map PyData.int id p)) = fun p : Int × Nat => decide (0 < p.1) && !s.contains p.2 := by
    funext p
    show (decide (0 < p.1) && !((s.map fun k => PyData.int (k : Nat)).any fun y => PyData.eqv y (.int (p.2 : Nat)))) = _
    rw [any_eqv]
  rw [e1]
  apply List.map_congr_left
  intro p hp
  show PyData.tuple _ = tupN _
  unfold tupN
  simp
section
variable {P : Program} {w : World} {K : PySem.W.Frag} {mg : Str → Option Value} {base : Heap}
theorem ok14 (B : Bl mg) (D : Def K mg "permutations_within" s14 ["square"]) : FnOk P w K mg base CX0 1 D.f D.fd ["square"] (spD K (PureS f14)) := by
  refine fn_def D.F sc14 (fun xs cs R ⟨_, _, d, ⟨x, _, _, e, _⟩, _⟩ => by rw [e]; rfl) fun cdv A outer s H E xs cs R hr ⟨hcs, _, d, ⟨rows, hl, hl6, hx, hd⟩, hR⟩ => ?_
  subst hcs hx hd
  refine sd_asg 1 (sv := .d (.list [tupN []])) (pv_lst [tupN []] (pva_cons (pv_tup [] pva_nil rfl) pva_nil) rfl) ?_ sc14.nd
  refine sd_for (xs := rows.map fun r => .list (r.map .int)) (g := gName 2) (fun i ds' cs' => cs' = [] ∧ ∃ a b c d, ds' = [some (.d (matD rows)), some (.d (.list (((rows.take i).foldl stepW [[]]).map tupN))), a, b, c, d]) (pvi_list (pv_var 0)) (pg_name (i := 2) sc14.nd rfl (by first | exact Or.inl rfl | exact Or.inr rfl)) gd_name ⟨rfl, _, _, _, _, rfl⟩ (fun i x ds' cs' hx ⟨e1, a, b, c, d, e2⟩ => ⟨_, rfl, ?_⟩) (fun ds' cs' ⟨e1, a, b, c, d, e2⟩ => ?_) .never
  · subst e1 e2
    rw [List.getElem?_map] at hx
    cases hr2 : rows[i]? with
    | none => rw [hr2] at hx; cases hx
    | some r =>
      rw [hr2] at hx
      cases hx
      have hrm := List.mem_of_getElem? hr2
      have hi : i < rows.length := (List.getElem?_eq_some_iff.mp hr2).1
      have hlen : ((rows.take i).foldl stepW [[]]).length ≤ 6 ^ 5 := by
        have h1 := permW_len (rows := rows.take i) (fun q hq => hl6 q (List.mem_of_mem_take hq)) [[]]
        rw [List.length_take] at h1
        simp at h1
        exact Nat.le_trans h1 (Nat.pow_le_pow_right (by decide) (by omega))
      refine sd_asgLc2 1 (own := [("some", 3), ("k", 4), ("item", 5)]) (vs1 := [4, 5]) (f1 := fPair 4 5) (ys := fun _ => enD (r.map .int)) (p := pW) (h := hW) (pvi_list (pv_var 1)) (blkOk_by (by kernel_rfl)) (by decide) (fun _ _ _ _ _ => pg_name (i := 3) sc14.nd rfl (Or.inl rfl)) gd_name (by decide) (fun _ _ _ _ _ => pg_pair 4 5 sc14.nd rfl rfl (Or.inl rfl) (Or.inl rfl)) gd_pair (by decide) (fun x hx => ⟨_, rfl, fun s H C cl fp => ?_, fun y hy => ?_⟩) ?_ ?_ sc14.nd
      · exact pvi_enum B.enumerate (pva_cons (pv_var 2) pva_nil)
      · obtain ⟨st, hst, rfl⟩ := List.mem_map.mp hx
        obtain ⟨j, hj⟩ := List.mem_iff_getElem?.mp hy
        obtain ⟨z, hz, rfl⟩ := enD_get hj
        rw [List.getElem?_map] at hz
        cases hz2 : r[j]? with
        | none => rw [hz2] at hz; cases hz
        | some it =>
          rw [hz2] at hz
          cases hz
          have hfl : ∀ x ∈ (st.map fun k => PyData.int (k : Nat)), flatB x = true := fun x hx => by
            obtain ⟨k, _, rfl⟩ := List.mem_map.mp hx
            rfl
          have hjs : st.length ≤ 1000 := by
            have := permW_mem (rows := rows.take i) (found := [[]]) (m := 0) (by simp) st hst
            rw [List.length_take] at this
            omega
          refine ⟨_, rfl, fun s H C cl fp => pvts_one ?_, fun _ s H C cl fp => ?_⟩
          · refine pvt_and (pvt_gt (pv_var 5) pv_int) fun _ => pvw_and1 (pvt_notinT (pv_var 4) (pv_var 3) rfl hfl)
          · exact pv_tup _ (pva_star (.inl (pv_var 3)) (pva_cons (pv_var 4) pva_nil)) (by simp [tupN]) (by simp; exact Nat.le_trans (Nat.add_le_add_right hjs 1) (by decide))
      · rw [stepW_data, List.length_map]
        have h2 := stepW_len (found := (rows.take i).foldl stepW [[]]) (hl6 r hrm)
        exact Nat.le_trans h2 (Nat.le_trans (Nat.mul_le_mul_right _ hlen) (by decide))
      · rw [stepW_data]
        have e3 : (rows.take (i + 1)).foldl stepW [[]] = stepW ((rows.take i).foldl stepW [[]]) r := by rw [List.take_add_one, hr2]; simp
        refine sd_nil ⟨rfl, some (.d (.list (r.map .int))), b, c, d, ?_⟩
        rw [e3]
        rfl
  · subst e1 e2
    refine sd_ret (PV.pd (pv_var 1) ?_)
    rw [List.length_map, List.take_length]
    exact hR
end
end K69
set_option Elab.async false
set_option linter.all false
set_option maxRecDepth 100000
/-! M1: a matrix of ints from 0 on, all lines of the same sum above 0, has a permutation within (plain law). -/
namespace K69
abbrev S {α : Type} (l : List α) (g : α → Int) : Int := (l.map g).sum
theorem S_perm {α : Type} (g : α → Int) {l l' : List α} (p : l.Perm l') : S l g = S l' g := by
  induction p with
  | nil => rfl
  | cons a _ ih => simp [S] at ih ⊢; omega
  | swap a b l => simp [S]; omega
  | trans _ _ i1 i2 => exact i1.trans i2
theorem S_congr {α : Type} {g h : α → Int} : ∀ {l : List α}, (∀ a ∈ l, g a = h a) → S l g = S l h
  | [], _ => rfl
  | a :: l, e => by
    have := S_congr (l := l) fun b hb => e b (List.mem_cons_of_mem _ hb)
    have h2 := e a (List.mem_cons_self ..)
    simp [S] at this ⊢; omega
theorem S_add {α : Type} (g h : α → Int) : ∀ l : List α, S l (fun a => g a + h a) = S l g + S l h
  | [] => rfl
  | a :: l => by have := S_add g h l; simp [S] at this ⊢; omega
theorem S_sub {α : Type} (g h : α → Int) : ∀ l : List α, S l (fun a => g a - h a) = S l g - S l h
  | [] => rfl
  | a :: l => by have := S_sub g h l; simp [S] at this ⊢; omega
theorem S_mul {α : Type} (c : Int) (g : α → Int) : ∀ l : List α, S l (fun a => c * g a) = c * S l g
  | [] => by simp [S]
  | a :: l => by have := S_mul c g l; simp [S] at this ⊢; rw [this, Int.mul_add]
theorem S_zero {α : Type} : ∀ l : List α, S l (fun _ => 0) = 0
  | [] => rfl
  | a :: l => by
    have := S_zero l
    show 0 + S l (fun _ => 0) = 0
    omega
theorem S_swap {α β : Type} (f : α → β → Int) (m : List β) : ∀ l : List α, S l (fun a => S m fun b => f a b) = S m (fun b => S l fun a => f a b)
  | [] => (S_zero m).symm
  | a :: l => by
    have h1 := S_swap f m l
    have h2 := S_add (fun b => f a b) (fun b => S l fun a => f a b) m
    show S m (fun b => f a b) + S l (fun a => S m fun b => f a b) = S m (fun b => f a b + S l fun a => f a b)
    omega
theorem S_nonneg {α : Type} {g : α → Int} : ∀ {l : List α}, (∀ a ∈ l, 0 ≤ g a) → 0 ≤ S l g
  | [], _ => Int.le_refl _
  | a :: l, e => by
    have := S_nonneg (l := l) fun b hb => e b (List.mem_cons_of_mem _ hb)
    have h2 := e a (List.mem_cons_self ..)
    simp [S] at this ⊢; omega
theorem S_eq_zero {α : Type} {g : α → Int} : ∀ {l : List α}, (∀ a ∈ l, 0 ≤ g a) → S l g = 0 → ∀ a ∈ l, g a = 0
  | a :: l, e, h, b, hb => by
    have h1 := S_nonneg (l := l) fun b hb => e b (List.mem_cons_of_mem _ hb)
    have h2 := e a (List.mem_cons_self ..)
    have h3 : g a + S l g = 0 := h
    rcases List.mem_cons.mp hb with rfl | hb
    · omega
    · exact S_eq_zero (l := l) (fun b hb => e b (List.mem_cons_of_mem _ hb)) (by omega) b hb
theorem S_pos {α : Type} {g : α → Int} : ∀ {l : List α}, 0 < S l g → ∃ a ∈ l, 0 < g a
  | [], h => absurd h (Int.lt_irrefl _)
  | a :: l, h => by
    by_cases ha : 0 < g a
    · exact ⟨a, List.mem_cons_self .., ha⟩
    · have h3 : S (a :: l) g = g a + S l g := rfl
      obtain ⟨b, hb, h2⟩ := S_pos (l := l) (g := g) (by omega)
      exact ⟨b, List.mem_cons_of_mem _ hb, h2⟩
theorem S_const {α : Type} (c : Int) : ∀ l : List α, S l (fun _ => c) = c * l.length
  | [] => by simp [S]
  | a :: l => by
    have := S_const c l
    show c + S l (fun _ => c) = c * ((l.length + 1 : Nat) : Int)
    rw [this, Int.natCast_add, Int.mul_add]
    simp; omega

theorem perm_of_nd {l : List Nat} {n : Nat} (hn : l.Nodup) (hl : l.length = n) (h : ∀ x ∈ l, x < n) : l.Perm (List.range n) := by
  refine (List.perm_ext_iff_of_nodup hn List.nodup_range).mpr fun k => ⟨fun hk => List.mem_range.mpr (h k hk), fun hk => ?_⟩
  rcases Classical.em (k ∈ l) with c | c
  · exact c
  · exfalso
    have := List.Nodup.length_le_of_subset (l₁ := k :: l) (l₂ := List.range n) (List.nodup_cons.mpr ⟨c, hn⟩) (fun x hx => by
      rcases List.mem_cons.mp hx with rfl | hx
      · exact hk
      · exact List.mem_range.mpr (h x hx))
    rw [List.length_cons, List.length_range] at this
    omega
/-- a permutation of 0 .. n - 1 -/
structure IsP (n : Nat) (σ : Nat → Nat) : Prop where
  lt : ∀ k, k < n → σ k < n
  inj : ∀ k l, k < n → l < n → σ k = σ l → k = l
theorem IsP.nd {n : Nat} {σ : Nat → Nat} (h : IsP n σ) : ((List.range n).map σ).Nodup := by
  refine List.pairwise_map.mpr (List.Pairwise.imp_of_mem (R := (· ≠ ·)) (fun {a b} ha hb hne e => hne (h.inj a b (List.mem_range.mp ha) (List.mem_range.mp hb) e)) ?_)
  exact List.nodup_range
theorem IsP.perm {n : Nat} {σ : Nat → Nat} (h : IsP n σ) : ((List.range n).map σ).Perm (List.range n) :=
  perm_of_nd h.nd (by simp) fun x hx => by
    obtain ⟨k, hk, rfl⟩ := List.mem_map.mp hx
    exact h.lt k (List.mem_range.mp hk)
theorem IsP.sum {n : Nat} {σ : Nat → Nat} (h : IsP n σ) (g : Nat → Int) : S (List.range n) (fun k => g (σ k)) = S (List.range n) g := by
  have := S_perm g h.perm
  rw [← this]
  simp [S, List.map_map, Function.comp_def]
/-- all lines sum to c -/
structure Sto (n : Nat) (f : Nat → Nat → Int) (c : Int) : Prop where
  nn : ∀ k j, k < n → j < n → 0 ≤ f k j
  row : ∀ k, k < n → S (List.range n) (f k) = c
  col : ∀ j, j < n → S (List.range n) (fun k => f k j) = c

inductive Reach (E : Nat → Nat → Prop) (k0 : Nat) : Nat → Prop where
  | base : Reach E k0 k0
  | step {a b : Nat} : Reach E k0 a → E a b → Reach E k0 b
structure Path (E : Nat → Nat → Prop) (k0 k : Nat) (q : List Nat) : Prop where
  nd : q.Nodup
  hd : q[0]? = some k0
  last : q[q.length - 1]? = some k
  e : ∀ i a b, q[i]? = some a → q[i + 1]? = some b → E a b
theorem Reach.path {E : Nat → Nat → Prop} {k0 k : Nat} (h : Reach E k0 k) : ∃ q, Path E k0 k q := by
  induction h with
  | base => exact ⟨[k0], by simp, rfl, rfl, fun i a b h1 h2 => by simp at h2⟩
  | step h e ih =>
    rename_i a b
    obtain ⟨q, p⟩ := ih
    by_cases hb : b ∈ q
    · obtain ⟨i, hi, e1⟩ := List.mem_iff_getElem.mp hb
      refine ⟨q.take (i + 1), p.nd.sublist (List.take_sublist _ _), ?_, ?_, fun j a b h1 h2 => ?_⟩
      · rw [List.getElem?_take, if_pos (by omega)]; exact p.hd
      · rw [List.length_take, List.getElem?_take, if_pos (by omega)]
        have : min (i + 1) q.length - 1 = i := by omega
        rw [this]
        simp [hi, e1]
      · rw [List.getElem?_take] at h1 h2
        split at h1
        · split at h2
          · exact p.e j a b h1 h2
          · cases h2
        · cases h1
    · have hq : q.length ≠ 0 := fun e => by
        have := p.hd
        rw [List.eq_nil_of_length_eq_zero e] at this
        cases this
      refine ⟨q ++ [b], ?_, ?_, ?_, fun j x y h1 h2 => ?_⟩
      · rw [List.nodup_append]
        refine ⟨p.nd, by simp, fun x hx y hy e => hb ?_⟩
        simp at hy
        rw [← hy, ← e]; exact hx
      · rw [List.getElem?_append_left (by omega)]; exact p.hd
      · rw [List.length_append, List.length_singleton, Nat.add_sub_cancel, List.getElem?_append_right (by omega)]
        simp
      · by_cases hj : j + 1 < q.length
        · rw [List.getElem?_append_left (by omega)] at h1 h2
          exact p.e j x y h1 h2
        · rw [List.getElem?_append_right (by omega)] at h2
          have hj2 : j + 1 = q.length := by
            by_cases h : j + 1 - q.length = 0
            · omega
            · have : ([b] : List Nat)[j + 1 - q.length]? = none := by
                rw [List.getElem?_eq_none]; simp; omega
              rw [this] at h2; cases h2
          have hj3 : j + 1 - q.length = 0 := by omega
          rw [hj3] at h2
          simp at h2
          rw [List.getElem?_append_left (by omega)] at h1
          have hl := p.last
          have : q.length - 1 = j := by omega
          rw [this, h1] at hl
          cases hl
          rw [← h2]; exact e
/-- on the cycle to the next, elsewhere oneself -/
def nxt (q : List Nat) (x : Nat) : Nat := if x ∈ q then q.getD (if q.idxOf x + 1 < q.length then q.idxOf x + 1 else 0) 0 else x
theorem nxt_in {q : List Nat} {i x : Nat} (nd : q.Nodup) (h : q[i]? = some x) : nxt q x = q.getD (if i + 1 < q.length then i + 1 else 0) 0 := by
  obtain ⟨hi, e⟩ := List.getElem?_eq_some_iff.mp h
  have hm : x ∈ q := by rw [← e]; exact List.getElem_mem hi
  have hx : q.idxOf x = i := by
    have h1 := List.idxOf_lt_length_of_mem hm
    have h2 : q[q.idxOf x]? = some x := by
      rw [List.getElem?_eq_getElem h1, List.getElem_idxOf]
    exact (List.getElem?_inj h1 nd).mp (h2.trans h.symm)
  unfold nxt
  rw [if_pos hm, hx]
theorem nxt_mem {q : List Nat} {x : Nat} (hx : x ∈ q) : nxt q x ∈ q := by
  unfold nxt
  rw [if_pos hx]
  have hl : 0 < q.length := List.length_pos_of_mem hx
  rw [List.getD_eq_getElem?_getD]
  split
  · rename_i h; simp [h]
  · simp [hl]
theorem nxt_isP {n : Nat} {q : List Nat} (nd : q.Nodup) (hq : ∀ x ∈ q, x < n) : IsP n (nxt q) where
  lt := fun k hk => by
    by_cases h : k ∈ q
    · exact hq _ (nxt_mem h)
    · unfold nxt; rw [if_neg h]; exact hk
  inj := fun k l hk hl e => by
    by_cases h1 : k ∈ q
    · by_cases h2 : l ∈ q
      · obtain ⟨i, hi⟩ := List.mem_iff_getElem?.mp h1
        obtain ⟨j, hj⟩ := List.mem_iff_getElem?.mp h2
        rw [nxt_in nd hi, nxt_in nd hj] at e
        have li := (List.getElem?_eq_some_iff.mp hi).1
        have lj := (List.getElem?_eq_some_iff.mp hj).1
        have key : (if i + 1 < q.length then i + 1 else 0) = if j + 1 < q.length then j + 1 else 0 := by
          have b1 : (if i + 1 < q.length then i + 1 else 0) < q.length := by split <;> omega
          have b2 : (if j + 1 < q.length then j + 1 else 0) < q.length := by split <;> omega
          rw [List.getD_eq_getElem?_getD, List.getD_eq_getElem?_getD, List.getElem?_eq_getElem b1, List.getElem?_eq_getElem b2] at e
          simp only [Option.getD_some] at e
          refine (List.getElem?_inj b1 nd).mp ?_
          rw [List.getElem?_eq_getElem b1, List.getElem?_eq_getElem b2, e]
        have : i = j := by
          split at key <;> split at key <;> omega
        subst this
        rw [hi] at hj
        exact Option.some.inj hj
      · exfalso
        have h3 := nxt_mem h1
        have h4 : nxt q l = l := by unfold nxt; rw [if_neg h2]
        rw [e, h4] at h3
        exact h2 h3
    · have h4 : nxt q k = k := by unfold nxt; rw [if_neg h1]
      by_cases h2 : l ∈ q
      · exfalso
        have h3 := nxt_mem h2
        rw [← e, h4] at h3
        exact h1 h3
      · have h5 : nxt q l = l := by unfold nxt; rw [if_neg h2]
        rw [h4, h5] at e
        exact e
theorem IsP.comp {n : Nat} {σ τ : Nat → Nat} (h : IsP n σ) (k : IsP n τ) : IsP n (fun x => σ (τ x)) where
  lt := fun x hx => h.lt _ (k.lt _ hx)
  inj := fun x y hx hy e => k.inj x y hx hy (h.inj _ _ (k.lt _ hx) (k.lt _ hy) e)
/-- back to where one began -/
theorem reach_back {n : Nat} {N : Nat → Nat → Int} {c : Int} (h : Sto n N c) (hc : 0 < c) {k0 : Nat} (hk : k0 < n) : ∃ k, k < n ∧ Reach (fun a b => a < n ∧ b < n ∧ 0 < N a b) k0 k ∧ 0 < N k k0 := by
  classical
  let E : Nat → Nat → Prop := fun a b => a < n ∧ b < n ∧ 0 < N a b
  let χ : Nat → Int := fun k => if Reach E k0 k then 1 else 0
  have χ01 : ∀ k, χ k = 0 ∨ χ k = 1 := fun k => by
    by_cases h : Reach E k0 k
    · exact .inr (if_pos h)
    · exact .inl (if_neg h)
  have e1 : S (List.range n) (fun k => S (List.range n) fun j => χ k * N k j) = c * S (List.range n) χ := by
    rw [← S_mul]
    exact S_congr fun k hk => by rw [S_mul, h.row k (List.mem_range.mp hk), Int.mul_comm]
  have e2 : S (List.range n) (fun k => S (List.range n) fun j => χ j * N k j) = c * S (List.range n) χ := by
    rw [S_swap, ← S_mul]
    exact S_congr fun j hj => by rw [S_mul, h.col j (List.mem_range.mp hj), Int.mul_comm]
  have e3 : S (List.range n) (fun k => S (List.range n) fun j => χ j * N k j - χ k * N k j) = 0 := by
    have : ∀ k, S (List.range n) (fun j => χ j * N k j - χ k * N k j) = S (List.range n) (fun j => χ j * N k j) - S (List.range n) (fun j => χ k * N k j) := fun k => S_sub _ _ _
    rw [S_congr fun k _ => this k, S_sub, e1, e2]
    omega
  have nn : ∀ k, k < n → ∀ j, j < n → 0 ≤ χ j * N k j - χ k * N k j := fun k hk j hj => by
    have h0 := h.nn k j hk hj
    by_cases hz : N k j = 0
    · rw [hz]; simp
    · rcases χ01 k with a | a <;> rcases χ01 j with b | b
      · rw [a, b]; omega
      · rw [a, b]; omega
      · exfalso
        have r : Reach E k0 k := by
          rcases Classical.em (Reach E k0 k) with r | r
          · exact r
          · have : χ k = 0 := if_neg r
            omega
        have : χ j = 1 := if_pos (r.step ⟨hk, hj, by omega⟩)
        omega
      · rw [a, b]; omega
  have z : ∀ k, k < n → ∀ j, j < n → χ j * N k j - χ k * N k j = 0 := fun k hk j hj => by
    have h1 := S_eq_zero (fun k hk => S_nonneg fun j hj => nn k (List.mem_range.mp hk) j (List.mem_range.mp hj)) e3 k (List.mem_range.mpr hk)
    exact S_eq_zero (fun j hj => nn k hk j (List.mem_range.mp hj)) h1 j (List.mem_range.mpr hj)
  obtain ⟨k, hkr, hp⟩ := S_pos (l := List.range n) (g := fun k => N k k0) (by rw [h.col k0 hk]; exact hc)
  have hkn := List.mem_range.mp hkr
  refine ⟨k, hkn, ?_, hp⟩
  have h1 := z k hkn k0 hk
  have h2 : χ k0 = 1 := if_pos .base
  rw [h2] at h1
  rcases Classical.em (Reach E k0 k) with r | r
  · exact r
  · have h3 : χ k = 0 := if_neg r
    rw [h3] at h1
    omega
theorem better {n : Nat} {f : Nat → Nat → Int} {c : Int} (h : Sto n f c) (hc : 0 < c) {σ : Nat → Nat} (hσ : IsP n σ) {k0 : Nat} (hk : k0 < n) : ∃ τ, IsP n τ ∧ 0 < f k0 (τ k0) ∧ ∀ x, x < n → 0 < f x (σ x) → 0 < f x (τ x) := by
  have hN : Sto n (fun k j => f k (σ j)) c := ⟨fun k j a b => h.nn k _ a (hσ.lt j b), fun k a => (hσ.sum (f k)).trans (h.row k a), fun j b => h.col _ (hσ.lt j b)⟩
  obtain ⟨k, hkn, r, hp⟩ := reach_back hN hc hk
  obtain ⟨q, p⟩ := r.path
  have hl0 : 0 < q.length := by
    have := p.hd
    exact (List.getElem?_eq_some_iff.mp this).1
  have qn : ∀ x ∈ q, x < n := fun x hx => by
    obtain ⟨i, hi⟩ := List.mem_iff_getElem?.mp hx
    cases i with
    | zero => rw [p.hd] at hi; cases hi; exact hk
    | succ i =>
      have hlt := (List.getElem?_eq_some_iff.mp hi).1
      exact (p.e i q[i] x (by simp [Nat.lt_of_succ_lt hlt]) hi).2.1
  have good : ∀ x ∈ q, 0 < f x (σ (nxt q x)) := fun x hx => by
    obtain ⟨i, hi⟩ := List.mem_iff_getElem?.mp hx
    have hlt := (List.getElem?_eq_some_iff.mp hi).1
    rw [nxt_in p.nd hi]
    by_cases h1 : i + 1 < q.length
    · rw [if_pos h1]
      have h2 : q[i + 1]? = some q[i + 1] := by simp [h1]
      have := (p.e i x q[i + 1] hi h2).2.2
      rw [List.getD_eq_getElem?_getD, h2]
      exact this
    · rw [if_neg h1, List.getD_eq_getElem?_getD, p.hd]
      have h3 : q.length - 1 = i := by omega
      have h4 := p.last
      rw [h3, hi] at h4
      cases h4
      exact hp
  refine ⟨fun x => σ (nxt q x), hσ.comp (nxt_isP p.nd qn), good k0 ?_, fun x hx h1 => ?_⟩
  · exact List.mem_of_getElem? p.hd
  · by_cases hq : x ∈ q
    · exact good x hq
    · have : nxt q x = x := by unfold nxt; rw [if_neg hq]
      show 0 < f x (σ (nxt q x))
      rw [this]; exact h1
theorem exP_upto {n : Nat} {f : Nat → Nat → Int} {c : Int} (h : Sto n f c) (hc : 0 < c) : ∀ m, m ≤ n → ∃ σ, IsP n σ ∧ ∀ x, x < m → 0 < f x (σ x)
  | 0, _ => ⟨fun x => x, ⟨fun _ h => h, fun _ _ _ _ e => e⟩, fun x hx => absurd hx (Nat.not_lt_zero _)⟩
  | m + 1, hm => by
    obtain ⟨σ, h1, h2⟩ := exP_upto h hc m (Nat.le_of_succ_le hm)
    obtain ⟨τ, h3, h4, h5⟩ := better h hc h1 (k0 := m) hm
    refine ⟨τ, h3, fun x hx => ?_⟩
    by_cases e : x = m
    · rw [e]; exact h4
    · exact h5 x (by omega) (h2 x (by omega))
/-- Birkhoff: a permutation within -/
theorem exP {n : Nat} {f : Nat → Nat → Int} {c : Int} (h : Sto n f c) (hc : 0 < c) : ∃ σ, IsP n σ ∧ ∀ x, x < n → 0 < f x (σ x) := exP_upto h hc n (Nat.le_refl n)

/-! ### few: a triangular family is no longer than the coordinates -/
def dot {ι : Type} (I : List ι) (φ v : ι → Int) : Int := S I fun i => φ i * v i
inductive Tri {ι : Type} (I : List ι) : List ((ι → Int) × (ι → Int)) → Prop where
  | nil : Tri I []
  | cons {v φ : ι → Int} {L : List ((ι → Int) × (ι → Int))} : dot I φ v ≠ 0 → (∀ p ∈ L, dot I φ p.1 = 0) → Tri I L → Tri I ((v, φ) :: L)
theorem dot_erase {ι : Type} [DecidableEq ι] {φ v : ι → Int} {i : ι} : ∀ {I : List ι}, i ∈ I → φ i = 0 → dot (I.erase i) φ v = dot I φ v := fun {I} hi h0 => by
  have := S_perm (fun i => φ i * v i) (List.perm_cons_erase hi)
  unfold dot
  rw [this]
  show _ = φ i * v i + S (I.erase i) fun i => φ i * v i
  rw [h0, Int.zero_mul, Int.zero_add]
theorem dot_lin {ι : Type} (I : List ι) (a b : Int) (φ ψ v : ι → Int) : dot I (fun i => a * φ i - b * ψ i) v = a * dot I φ v - b * dot I ψ v := by
  unfold dot
  rw [← S_mul, ← S_mul, ← S_sub]
  exact S_congr fun i _ => by rw [Int.sub_mul, Int.mul_assoc, Int.mul_assoc]
theorem tri_map {ι : Type} [DecidableEq ι] {I : List ι} {φ0 : ι → Int} {i : ι} (hi : i ∈ I) (h0 : φ0 i ≠ 0) : ∀ {L : List ((ι → Int) × (ι → Int))}, Tri I L → (∀ p ∈ L, dot I φ0 p.1 = 0) →
    Tri (I.erase i) (L.map fun p => (p.1, fun j => φ0 i * p.2 j - p.2 i * φ0 j))
  | [], _, _ => .nil
  | (v, φ) :: L, .cons h1 h2 h3, hk => by
    have key : ∀ w, dot I φ0 w = 0 → dot (I.erase i) (fun j => φ0 i * φ j - φ i * φ0 j) w = φ0 i * dot I φ w := fun w hw => by
      rw [dot_erase hi (by show φ0 i * φ i - φ i * φ0 i = 0; rw [Int.mul_comm]; omega), dot_lin, hw]
      omega
    refine .cons ?_ (fun p hp => ?_) (tri_map hi h0 h3 fun p hp => hk p (List.mem_cons_of_mem _ hp))
    · rw [key v (hk (v, φ) (List.mem_cons_self ..))]
      exact fun e => by
        rcases Int.mul_eq_zero.mp e with e | e
        · exact h0 e
        · exact h1 e
    · obtain ⟨p0, hp0, rfl⟩ := List.mem_map.mp hp
      show dot (I.erase i) _ p0.1 = 0
      rw [key p0.1 (hk p0 (List.mem_cons_of_mem _ hp0)), h2 p0 hp0]
      simp
theorem tri_len {ι : Type} [DecidableEq ι] : ∀ {n : Nat} {I : List ι} {L : List ((ι → Int) × (ι → Int))}, L.length = n → Tri I L → L.length ≤ I.length
  | 0, I, L, hn, _ => by omega
  | n + 1, I, (v, φ) :: L, hn, .cons h1 h2 h3 => by
    obtain ⟨i, hi, h0⟩ : ∃ i ∈ I, φ i ≠ 0 := by
      rcases Classical.em (∃ i ∈ I, φ i ≠ 0) with c | c
      · exact c
      · exfalso
        apply h1
        have : dot I φ v = S I fun _ => 0 := S_congr fun i hi => by
          have : φ i = 0 := by
            rcases Classical.em (φ i = 0) with c2 | c2
            · exact c2
            · exact absurd ⟨i, hi, c2⟩ c
          rw [this]; simp
        rw [this, S_zero]
    have ih := tri_len (n := n) (I := I.erase i) (by rw [List.length_map]; simpa using hn) (tri_map hi h0 h3 h2)
    rw [List.length_map, List.length_erase_of_mem hi] at ih
    have := List.length_pos_of_mem hi
    rw [List.length_cons]
    omega
end K69
set_option Elab.async false
set_option linter.all false
set_option maxRecDepth 100000
/-! M2: what permutation_sum finds (plain law). -/
namespace K69
/-- the entry at k, j -/
def at2 (rows : List (List Int)) (k j : Nat) : Int := (rows.getD k []).getD j 0
/-- u goes on from s along the rows -/
inductive Fits : List Nat → List (List Int) → List Nat → Prop where
  | nil {s : List Nat} : Fits s [] []
  | cons {s : List Nat} {r : List Int} {rows : List (List Int)} {k : Nat} {u : List Nat} {item : Int} : r[k]? = some item → 0 < item → k ∉ s → Fits (s ++ [k]) rows u → Fits s (r :: rows) (k :: u)
theorem mem_stepW {found : List (List Nat)} {line : List Int} {t : List Nat} : t ∈ stepW found line ↔ ∃ s ∈ found, ∃ k item, t = s ++ [k] ∧ line[k]? = some item ∧ 0 < item ∧ k ∉ s := by
  unfold stepW
  rw [List.mem_flatMap]
  constructor
  · rintro ⟨s, hs, h⟩
    obtain ⟨p, hp, rfl⟩ := List.mem_map.mp h
    obtain ⟨h1, h2⟩ := List.mem_filter.mp hp
    obtain ⟨i, hi⟩ := List.mem_iff_getElem?.mp h1
    rw [List.getElem?_zipIdx] at hi
    cases q : line[i]? with
    | none => rw [q] at hi; cases hi
    | some x =>
      rw [q] at hi
      simp at hi
      rw [← hi] at h2 ⊢
      simp at h2
      exact ⟨s, hs, i, x, rfl, q, h2.1, h2.2⟩
  · rintro ⟨s, hs, k, item, rfl, h1, h2, h3⟩
    refine ⟨s, hs, List.mem_map.mpr ⟨(item, k), List.mem_filter.mpr ⟨?_, by simp [h2, h3]⟩, rfl⟩⟩
    refine List.mem_iff_getElem?.mpr ⟨k, ?_⟩
    rw [List.getElem?_zipIdx, h1]
    simp
theorem mem_fold : ∀ {rows : List (List Int)} {found : List (List Nat)} {t : List Nat}, t ∈ rows.foldl stepW found ↔ ∃ s ∈ found, ∃ u, t = s ++ u ∧ Fits s rows u
  | [], found, t => by
    constructor
    · exact fun h => ⟨t, h, [], by simp, .nil⟩
    · rintro ⟨s, hs, u, rfl, h⟩
      cases h
      simpa using hs
  | r :: rows, found, t => by
    rw [List.foldl_cons, mem_fold]
    constructor
    · rintro ⟨s, hs, u, rfl, h⟩
      obtain ⟨s', hs', k, item, rfl, h1, h2, h3⟩ := mem_stepW.mp hs
      exact ⟨s', hs', k :: u, by simp, .cons h1 h2 h3 h⟩
    · rintro ⟨s, hs, u, rfl, h⟩
      cases h with
      | cons h1 h2 h3 h4 => exact ⟨s ++ [_], mem_stepW.mpr ⟨s, hs, _, _, rfl, h1, h2, h3⟩, _, by simp, h4⟩
theorem mem_permW {rows : List (List Int)} {t : List Nat} : t ∈ permW rows ↔ Fits [] rows t := by
  unfold permW
  rw [mem_fold]
  constructor
  · rintro ⟨s, hs, u, rfl, h⟩
    simp at hs
    subst hs
    simpa using h
  · exact fun h => ⟨[], by simp, t, rfl, h⟩
theorem Fits.length {s : List Nat} {rows : List (List Int)} {u : List Nat} (h : Fits s rows u) : u.length = rows.length := by
  induction h with
  | nil => rfl
  | cons _ _ _ _ ih => simp [ih]
theorem Fits.get {s : List Nat} {rows : List (List Int)} {u : List Nat} (h : Fits s rows u) : ∀ (i k : Nat), u[i]? = some k → ∃ r item, rows[i]? = some r ∧ r[k]? = some item ∧ 0 < item := by
  induction h with
  | nil => intro i k q; simp at q
  | cons h1 h2 h3 h4 ih =>
    intro i k q
    cases i with
    | zero => simp at q; subst q; exact ⟨_, _, rfl, h1, h2⟩
    | succ i => exact ih i k (by simpa using q)
theorem Fits.nd {s : List Nat} {rows : List (List Int)} {u : List Nat} (h : Fits s rows u) : (∀ k ∈ u, k ∉ s) ∧ u.Nodup := by
  induction h with
  | nil => exact ⟨fun k hk => (by simp at hk), List.nodup_nil⟩
  | cons h1 h2 h3 h4 ih =>
    refine ⟨fun k hk => ?_, List.nodup_cons.mpr ⟨fun hm => ?_, ih.2⟩⟩
    · rcases List.mem_cons.mp hk with rfl | hk
      · exact h3
      · exact fun hs => ih.1 k hk (by simp [hs])
    · exact ih.1 _ hm (by simp)
theorem fits_of : ∀ {rows : List (List Int)} {u : List Nat} {s : List Nat}, u.length = rows.length → (∀ (i k : Nat), u[i]? = some k → ∃ r item, rows[i]? = some r ∧ r[k]? = some item ∧ 0 < item) → (∀ k ∈ u, k ∉ s) → u.Nodup → Fits s rows u
  | [], [], _, _, _, _, _ => .nil
  | r :: rows, k :: u, s, hl, h, h1, h2 => by
    obtain ⟨r', item, q1, q2, q3⟩ := h 0 k rfl
    simp at q1
    subst q1
    obtain ⟨n1, n2⟩ := List.nodup_cons.mp h2
    refine .cons q2 q3 (h1 k (by simp)) (fits_of (by simpa using hl) (fun i x q => h (i + 1) x (by simpa using q)) (fun x hx hm => ?_) n2)
    rcases List.mem_append.mp hm with hm | hm
    · exact h1 x (by simp [hx]) hm
    · simp at hm
      subst hm
      exact n1 hx

/-- the least of a list that is not empty -/
def minI : List Int → Int
  | [] => 0
  | [x] => x
  | x :: y :: l => if x ≤ minI (y :: l) then x else minI (y :: l)
theorem minI_mem : ∀ {l : List Int}, l ≠ [] → minI l ∈ l ∧ ∀ y ∈ l, minI l ≤ y
  | [], h => absurd rfl h
  | [x], _ => ⟨by simp [minI], fun y hy => by simp at hy; subst hy; simp [minI]⟩
  | x :: y :: l, _ => by
    obtain ⟨h1, h2⟩ := minI_mem (l := y :: l) (by simp)
    unfold minI
    split
    · rename_i h
      refine ⟨by simp, fun z hz => ?_⟩
      rcases List.mem_cons.mp hz with rfl | hz
      · exact Int.le_refl _
      · exact Int.le_trans h (h2 z hz)
    · rename_i h
      refine ⟨List.mem_cons_of_mem _ h1, fun z hz => ?_⟩
      rcases List.mem_cons.mp hz with rfl | hz
      · omega
      · exact h2 z hz
def anyPos (left : List (List Int)) : Bool := (left.flatMap fun r => r.map fun x => decide (0 < x)).any id
def ordOf (left : List (List Int)) : List Nat := (permW left).headD []
def picks (left : List (List Int)) (o : List Nat) : List Int := o.zipIdx.map fun p => at2 left p.2 p.1
/-- the rows below i less w at their places -/
def decTo (i : Nat) (left : List (List Int)) (o : List Nat) (w : Int) : List (List Int) := left.zipIdx.map fun p => if p.2 < i then p.1.set (o.getD p.2 0) (at2 left p.2 (o.getD p.2 0) - w) else p.1
abbrev wOf (left : List (List Int)) : Int := minI (picks left (ordOf left))
abbrev nextL (left : List (List Int)) : List (List Int) := decTo left.length left (ordOf left) (wOf left)
/-- the loop of permutation_sum -/
inductive Runs : List (List Int) → List (Int × List Nat) → List (Int × List Nat) → Prop where
  | done {left : List (List Int)} {found : List (Int × List Nat)} : anyPos left = false → Runs left found found
  | step {left : List (List Int)} {found res : List (Int × List Nat)} : anyPos left = true → Runs (nextL left) (found ++ [(wOf left, ordOf left)]) res → Runs left found res
/-- n rows of n, from 0 on, all lines of sum c -/
structure Good (n : Nat) (left : List (List Int)) (c : Int) : Prop where
  len : left.length = n
  rows : ∀ r ∈ left, r.length = n
  sto : Sto n (at2 left) c
theorem at2_eq {left : List (List Int)} {k j : Nat} {r : List Int} {x : Int} (h1 : left[k]? = some r) (h2 : r[j]? = some x) : at2 left k j = x := by
  unfold at2
  rw [List.getD_eq_getElem?_getD, List.getD_eq_getElem?_getD, h1]
  show (r[j]?).getD 0 = x
  rw [h2]; rfl
section
variable {n : Nat} {left : List (List Int)} {c : Int}
theorem Good.get (g : Good n left c) {k j : Nat} (hk : k < n) (hj : j < n) : ∃ r, left[k]? = some r ∧ r[j]? = some (at2 left k j) ∧ r.length = n := by
  have h1 : k < left.length := by rw [g.len]; exact hk
  have h2 : left[k]? = some left[k] := by simp [h1]
  have h3 := g.rows left[k] (List.getElem_mem h1)
  have h4 : j < left[k].length := by omega
  have h5 : left[k][j]? = some left[k][j] := by simp [h4]
  exact ⟨left[k], h2, by rw [at2_eq h2 h5]; exact h5, h3⟩
theorem Good.any (g : Good n left c) : anyPos left = true ↔ ∃ k j, k < n ∧ j < n ∧ 0 < at2 left k j := by
  unfold anyPos
  rw [List.any_eq_true]
  constructor
  · rintro ⟨b, hb, hb2⟩
    obtain ⟨r, hr, hb⟩ := List.mem_flatMap.mp hb
    obtain ⟨x, hx, rfl⟩ := List.mem_map.mp hb
    obtain ⟨k, hk⟩ := List.mem_iff_getElem?.mp hr
    obtain ⟨j, hj⟩ := List.mem_iff_getElem?.mp hx
    have l1 := (List.getElem?_eq_some_iff.mp hk).1
    have l2 := (List.getElem?_eq_some_iff.mp hj).1
    have l3 := g.rows r hr
    have l4 := g.len
    exact ⟨k, j, by omega, by omega, by rw [at2_eq hk hj]; simpa using hb2⟩
  · rintro ⟨k, j, hk, hj, hp⟩
    obtain ⟨r, h1, h2, _⟩ := g.get hk hj
    exact ⟨true, List.mem_flatMap.mpr ⟨r, List.mem_of_getElem? h1, List.mem_map.mpr ⟨_, List.mem_of_getElem? h2, by simp [hp]⟩⟩, rfl⟩
theorem Good.cpos (g : Good n left c) (h : anyPos left = true) : 0 < c := by
  obtain ⟨k, j, hk, hj, hp⟩ := g.any.mp h
  rw [← g.sto.row k hk]
  have hz : 0 ≤ S (List.range n) (at2 left k) := S_nonneg fun j hj => g.sto.nn k j hk (List.mem_range.mp hj)
  rcases Classical.em (S (List.range n) (at2 left k) = 0) with e | e
  · have := S_eq_zero (fun j hj => g.sto.nn k j hk (List.mem_range.mp hj)) e j (List.mem_range.mpr hj)
    omega
  · omega
/-- what the order is -/
structure IsOrd (n : Nat) (left : List (List Int)) (o : List Nat) : Prop where
  len : o.length = n
  lt : ∀ (k j : Nat), o[k]? = some j → j < n
  nd : o.Nodup
  pos : ∀ (k j : Nat), o[k]? = some j → 0 < at2 left k j
theorem Good.ord (g : Good n left c) (h : anyPos left = true) : IsOrd n left (ordOf left) ∧ ∃ r, permW left = ordOf left :: r := by
  obtain ⟨σ, h1, h2⟩ := exP g.sto (g.cpos h)
  have hm : (List.range n).map σ ∈ permW left := mem_permW.mpr (fits_of (by simp [g.len]) (fun i k q => by
    rw [List.getElem?_map] at q
    by_cases hi : i < n
    · rw [List.getElem?_range hi] at q
      have e : k = σ i := (Option.some.inj q).symm
      subst e
      obtain ⟨r, q1, q2, _⟩ := g.get hi (h1.lt i hi)
      exact ⟨r, _, q1, q2, h2 i hi⟩
    · rw [List.getElem?_eq_none (by simpa using hi)] at q
      cases q) (fun k _ => by simp) h1.nd)
  unfold ordOf
  cases hp : permW left with
  | nil => rw [hp] at hm; cases hm
  | cons o r =>
    refine ⟨?_, r, rfl⟩
    have f := mem_permW.mp (show o ∈ permW left by rw [hp]; simp)
    refine ⟨f.length.trans g.len, fun k j q => ?_, f.nd.2, fun k j q => ?_⟩
    · obtain ⟨r, item, q1, q2, q3⟩ := f.get k j q
      have := g.rows r (List.mem_of_getElem? q1)
      have := (List.getElem?_eq_some_iff.mp q2).1
      omega
    · obtain ⟨r, item, q1, q2, q3⟩ := f.get k j q
      rw [at2_eq q1 q2]; exact q3
/-- the permutation as a function -/
def fn (o : List Nat) (k : Nat) : Nat := o.getD k 0
theorem IsOrd.get {o : List Nat} (h : IsOrd n left o) {k : Nat} (hk : k < n) : o[k]? = some (fn o k) := by
  have : k < o.length := by rw [h.len]; exact hk
  unfold fn
  rw [List.getD_eq_getElem?_getD, List.getElem?_eq_getElem this]; rfl
theorem IsOrd.isP {o : List Nat} (h : IsOrd n left o) : IsP n (fn o) := ⟨fun k hk => h.lt k _ (h.get hk), fun k l hk hl e => by
  have h1 := h.get hk
  have h2 := h.get hl
  rw [← e, ← h1] at h2
  exact ((List.getElem?_inj (by rw [h.len]; exact hk) h.nd).mp h2.symm)⟩
theorem mem_picks {o : List Nat} (h : IsOrd n left o) {x : Int} : x ∈ picks left o ↔ ∃ k, k < n ∧ x = at2 left k (fn o k) := by
  unfold picks
  rw [List.mem_map]
  constructor
  · rintro ⟨p, hp, rfl⟩
    obtain ⟨i, hi⟩ := List.mem_iff_getElem?.mp hp
    rw [List.getElem?_zipIdx] at hi
    cases q : o[i]? with
    | none => rw [q] at hi; cases hi
    | some j =>
      rw [q] at hi
      simp at hi
      have l1 := (List.getElem?_eq_some_iff.mp q).1
      have hk : i < n := by rw [← h.len]; exact l1
      have e := h.get hk
      rw [q] at e
      refine ⟨i, hk, ?_⟩
      rw [← hi, ← Option.some.inj e]
  · rintro ⟨k, hk, rfl⟩
    refine ⟨(fn o k, k), List.mem_iff_getElem?.mpr ⟨k, ?_⟩, rfl⟩
    rw [List.getElem?_zipIdx, h.get hk]
    simp
theorem Good.w (g : Good n left c) (h : anyPos left = true) : 1 ≤ wOf left ∧ (∀ k, k < n → wOf left ≤ at2 left k (fn (ordOf left) k)) ∧ ∃ k, k < n ∧ at2 left k (fn (ordOf left) k) = wOf left := by
  obtain ⟨o, _⟩ := g.ord h
  have hn : 0 < n := by
    obtain ⟨k, j, hk, _⟩ := g.any.mp h
    omega
  have hne : picks left (ordOf left) ≠ [] := fun e => by
    have := (mem_picks o (x := at2 left 0 (fn (ordOf left) 0))).mpr ⟨0, hn, rfl⟩
    rw [e] at this; cases this
  obtain ⟨h1, h2⟩ := minI_mem hne
  obtain ⟨k, hk, e⟩ := (mem_picks o).mp h1
  refine ⟨?_, fun k hk => h2 _ ((mem_picks o).mpr ⟨k, hk, rfl⟩), k, hk, e.symm⟩
  have := o.pos k _ (o.get hk)
  have e2 : wOf left = at2 left k (fn (ordOf left) k) := e
  omega
theorem at2_decTo (g : Good n left c) {i : Nat} {o : List Nat} {w : Int} (ho : ∀ k, k < n → fn o k < n) {k j : Nat} (hk : k < n) (hj : j < n) : at2 (decTo i left o w) k j = at2 left k j - (if k < i ∧ j = fn o k then w else 0) := by
  obtain ⟨r, h1, h2, h3⟩ := g.get hk hj
  have e : (decTo i left o w)[k]? = some (if k < i then r.set (fn o k) (at2 left k (fn o k) - w) else r) := by
    unfold decTo
    rw [List.getElem?_map, List.getElem?_zipIdx, h1]
    simp
    rfl
  by_cases hi : k < i
  · rw [if_pos hi] at e
    by_cases hj2 : j = fn o k
    · rw [if_pos ⟨hi, hj2⟩]
      refine at2_eq e ?_
      rw [hj2, List.getElem?_set_self (by rw [h3]; exact ho k hk)]
    · rw [if_neg (fun z => hj2 z.2)]
      have : at2 (decTo i left o w) k j = at2 left k j := at2_eq e (by rw [List.getElem?_set_ne (fun z => hj2 z.symm)]; exact h2)
      omega
  · rw [if_neg hi] at e
    rw [if_neg (fun z => hi z.1)]
    have : at2 (decTo i left o w) k j = at2 left k j := at2_eq e h2
    omega
/-- 1 where the permutation goes -/
def pm (o : List Nat) (k j : Nat) : Int := if j = fn o k then 1 else 0
theorem S_one {n i : Nat} {w : Int} : i < n → S (List.range n) (fun j => if j = i then w else 0) = w := by
  induction n with
  | zero => exact fun h => absurd h (Nat.not_lt_zero _)
  | succ n ih =>
    intro h
    have e : S (List.range (n + 1)) (fun j => if j = i then w else 0) = S (List.range n) (fun j => if j = i then w else 0) + (if n = i then w else 0) := by
      unfold S; rw [List.range_succ, List.map_append, List.sum_append]; simp
    rw [e]
    by_cases hi : i = n
    · subst hi
      have : S (List.range i) (fun j => if j = i then w else 0) = S (List.range i) (fun _ => 0) := S_congr fun j hj => if_neg (Nat.ne_of_lt (List.mem_range.mp hj))
      rw [this, S_zero]; simp
    · rw [ih (by omega), if_neg (fun z => hi z.symm)]; omega
theorem pm_row {o : List Nat} (h : IsP n (fn o)) {k : Nat} (hk : k < n) : S (List.range n) (pm o k) = 1 := S_one (h.lt k hk)
theorem pm_col {o : List Nat} (h : IsP n (fn o)) {j : Nat} (hj : j < n) : S (List.range n) (fun k => pm o k j) = 1 := by
  have e : S (List.range n) (fun k => pm o k j) = S (List.range n) (fun k => if fn o k = j then 1 else 0) := S_congr fun k _ => by
    unfold pm
    by_cases q : j = fn o k
    · rw [if_pos q, if_pos q.symm]
    · rw [if_neg q, if_neg (fun z => q z.symm)]
  rw [e]
  exact (h.sum (fun x => if x = j then 1 else 0)).trans (S_one hj)
theorem Good.next (g : Good n left c) (h : anyPos left = true) : Good n (nextL left) (c - wOf left) := by
  obtain ⟨o, _⟩ := g.ord h
  obtain ⟨w1, w2, w3⟩ := g.w h
  have hP := o.isP
  have ea : ∀ k j, k < n → j < n → at2 (nextL left) k j = at2 left k j - wOf left * pm (ordOf left) k j := fun k j hk hj => by
    rw [nextL, at2_decTo g hP.lt hk hj]
    congr 1
    unfold pm
    have : k < left.length := by rw [g.len]; exact hk
    by_cases q : j = fn (ordOf left) k
    · rw [if_pos ⟨this, q⟩, if_pos q]; simp
    · rw [if_neg (fun z => q z.2), if_neg q]; simp
  refine ⟨?_, fun r hr => ?_, ⟨fun k j hk hj => ?_, fun k hk => ?_, fun j hj => ?_⟩⟩
  · unfold nextL decTo
    simp [g.len]
  · unfold nextL decTo at hr
    obtain ⟨p, hp, rfl⟩ := List.mem_map.mp hr
    obtain ⟨i, hi⟩ := List.mem_iff_getElem?.mp hp
    rw [List.getElem?_zipIdx] at hi
    cases q : left[i]? with
    | none => rw [q] at hi; cases hi
    | some r =>
      rw [q] at hi
      simp at hi
      have := g.rows r (List.mem_of_getElem? q)
      rw [← hi]
      split
      · simp [this]
      · exact this
  · rw [ea k j hk hj]
    have h0 := g.sto.nn k j hk hj
    unfold pm
    by_cases q : j = fn (ordOf left) k
    · rw [if_pos q]
      have := w2 k hk
      rw [← q] at this
      omega
    · rw [if_neg q]; simp; exact h0
  · rw [S_congr fun j hj => ea k j hk (List.mem_range.mp hj), S_sub, S_mul, g.sto.row k hk, pm_row hP hk]; simp
  · rw [S_congr fun k hk => ea k j (List.mem_range.mp hk) hj, S_sub, S_mul, g.sto.col j hj, pm_col hP hj]; simp
end
end K69
set_option Elab.async false
set_option linter.all false
set_option maxRecDepth 100000
set_option maxHeartbeats 4000000
namespace K69
open PySem PySem.Spec PyProof.Rows L2 DL
abbrev s15 : Stmt := topS 15
theorem sc15 : FnScope ["square", "left", "found", "line", "item", "order", "weight", "k", "m"] ["square"] (defScope s15) := ⟨rfl, rfl, rfl, by decide +kernel, rfl, by decide +kernel, by decide +kernel⟩
/-- a weight and its places -/
def pairD (p : Int × List Nat) : PyData := .tuple [.int p.1, tupN p.2]
def f15 : List SV → PyData → Prop := fun xs d => ∃ rs, SqOk rs ∧ xs = [.d (sqD rs)] ∧ ((evenB rs = false ∧ d = .none) ∨ (evenB rs = true ∧ ∃ c res, Good rs.length rs c ∧ Runs rs [] res ∧ res.length ≤ 1000 ∧ d = .list (res.map pairD)))
theorem Runs.le {left : List (List Int)} {found res : List (Int × List Nat)} (h : Runs left found res) : found.length ≤ res.length := by
  induction h with
  | done _ => exact Nat.le_refl _
  | step _ _ ih => rw [List.length_append] at ih; omega
theorem Runs.inv {left : List (List Int)} {found res : List (Int × List Nat)} (h : Runs left found res) (k : anyPos left = true) : Runs (nextL left) (found ++ [(wOf left, ordOf left)]) res := by
  cases h with
  | done e => rw [e] at k; cases k
  | step _ h => exact h
theorem Runs.fin {left : List (List Int)} {found res : List (Int × List Nat)} (h : Runs left found res) (k : anyPos left = false) : found = res := by
  cases h with
  | done e => rfl
  | step e _ => rw [e] at k; cases k
theorem lf_tupN (s : List Nat) : Lf (tupN s) := .tup fun x hx => by
  obtain ⟨k, _, rfl⟩ := List.mem_map.mp hx
  exact .int _
theorem lf_pair (p : Int × List Nat) : Lf (pairD p) := .tup fun x hx => by
  simp at hx
  rcases hx with rfl | rfl
  · exact .int _
  · exact lf_tupN _
abbrev mC (left : List (List Int)) : Cell := .mat (left.map fun r => r.map PyData.int)
abbrev fC (found : List (Int × List Nat)) : Cell := .lst (found.map pairD)
theorem clf_mC (left : List (List Int)) : CLf (mC left) := fun r hr x hx => by
  obtain ⟨q, _, rfl⟩ := List.mem_map.mp hr
  obtain ⟨i, _, rfl⟩ := List.mem_map.mp hx
  exact .int _
theorem clf_fC (found : List (Int × List Nat)) : CLf (fC found) := fun x hx => by
  obtain ⟨p, _, rfl⟩ := List.mem_map.mp hx
  exact lf_pair p
theorem mC_data (left : List (List Int)) : (mC left).data = matD left := by
  show PyData.list _ = PyData.list _
  rw [List.map_map]; rfl
theorem clf_two {left : List (List Int)} {found : List (Int × List Nat)} : ∀ (j : Nat) (x : Cell), ([some (mC left), some (fC found)] : Cells)[j]? = some (some x) → CLf x := fun j x q => by
  match j with
  | 0 => simp at q; subst q; exact clf_mC left
  | 1 => simp at q; subst q; exact clf_fC found
  | j + 2 => simp at q
/-- what the test, the order, the weight stand over: left as data -/
abbrev dsL (sq : SV) (l : SV) (a b c d e f : Option SV) : Slots := [some sq, some l, some (.own 1), a, b, c, d, e, f]
theorem frz_ds {sq : SV} {x : PyData} {a b c d e f : Option SV} (hsq : sq ≠ .own 0) : FrzDs (dsL sq (.own 0) a b c d e f) (dsL sq (.d x) a b c d e f) 0 x := ⟨rfl, fun i sv q => by
  match i with
  | 0 => exact .inl q
  | 1 => simp at q; exact .inr ⟨rfl, q.symm⟩
  | i + 2 => exact .inl q⟩
def hPos : PyData → PyData → PyData
  | _, .int i => .bool (decide (0 < i))
  | _, _ => .none
def itemsL : PyData → List PyData
  | .list l => l
  | _ => []
theorem anyPos_data (left : List (List Int)) : (left.map fun r => PyData.list (r.map .int)).flatMap (lc2F itemsL (fun _ _ => true) hPos) = (left.flatMap fun r => r.map fun x => decide (0 < x)).map .bool := by
  rw [List.flatMap_map, List.map_flatMap]
  congr 1
  funext r
  unfold lc2F itemsL
  rw [List.filter_eq_self.mpr (fun _ _ => rfl), List.map_map, List.map_map]
  rfl
def hPick (left : List (List Int)) : PyData → PyData
  | .tuple [.int k, .int m] => .int (at2 left k.toNat m.toNat)
  | _ => .none
theorem picks_data (left : List (List Int)) (o : List Nat) : (enD (o.map fun k => .int (k : Nat))).map (hPick left) = (picks left o).map .int := by
  unfold enD picks
  rw [List.zipIdx_map, List.map_map, List.map_map, List.map_map]
  apply List.map_congr_left
  intro p _
  simp [hPick]
theorem ixN_n {n j : Nat} (hj : j < n) : ixN n (j : Int) = some j := by
  unfold ixN
  rw [if_pos (by omega), if_pos (by omega)]
  simp
theorem ordD {n : Nat} {left : List (List Int)} {o : List Nat} (io : IsOrd n left o) {j : Nat} {z : PyData} (h : (o.map fun k => PyData.int (k : Nat))[j]? = some z) : j < n ∧ z = .int (fn o j : Nat) := by
  rw [List.getElem?_map] at h
  cases q : o[j]? with
  | none => rw [q] at h; cases h
  | some k =>
    rw [q] at h
    have l := (List.getElem?_eq_some_iff.mp q).1
    have hj : j < n := by rw [← io.len]; exact l
    have := io.get hj
    rw [q] at this
    rw [← Option.some.inj this]
    exact ⟨hj, (Option.some.inj h).symm⟩
theorem decTo_zero (left : List (List Int)) (o : List Nat) (w : Int) : decTo 0 left o w = left := by
  unfold decTo
  apply List.ext_getElem?
  intro i
  rw [List.getElem?_map, List.getElem?_zipIdx]
  cases left[i]? <;> simp
theorem decTo_at {left : List (List Int)} {o : List Nat} {w : Int} {i : Nat} {r : List Int} (h : left[i]? = some r) : (decTo i left o w)[i]? = some r := by
  unfold decTo
  rw [List.getElem?_map, List.getElem?_zipIdx, h]
  simp
theorem decTo_succ {left : List (List Int)} {o : List Nat} {w : Int} {i : Nat} {r : List Int} (h : left[i]? = some r) : decTo (i + 1) left o w = (decTo i left o w).set i (r.set (fn o i) (at2 left i (fn o i) - w)) := by
  have hl := (List.getElem?_eq_some_iff.mp h).1
  apply List.ext_getElem?
  intro j
  by_cases e : i = j
  · subst e
    rw [List.getElem?_set_self (by simp [decTo]; exact hl)]
    unfold decTo
    rw [List.getElem?_map, List.getElem?_zipIdx, h]
    simp [fn]
  · rw [List.getElem?_set_ne e]
    unfold decTo
    rw [List.getElem?_map, List.getElem?_zipIdx, List.getElem?_map, List.getElem?_zipIdx]
    cases left[j]? with
    | none => rfl
    | some q =>
      simp
      by_cases hj : j < i
      · rw [if_pos (by omega), if_pos hj]
      · rw [if_neg (by omega), if_neg hj]
section
variable {P : Program} {w : World} {K : PySem.W.Frag} {mg : Str → Option Value} {base : Heap}
theorem ok15 (B : Bl mg) (D12 : Def K mg "check_square" s12 ["square"]) (F12 : FnOk P w K mg base CX0 3 D12.f D12.fd ["square"] (spD K (PureS f12))) (D13 : Def K mg "is_even" s13 ["square"]) (F13 : FnOk P w K mg base CX0 1 D13.f D13.fd ["square"] (spD K (PureS f13)))
    (D14 : Def K mg "permutations_within" s14 ["square"]) (F14 : FnOk P w K mg base CX0 1 D14.f D14.fd ["square"] (spD K (PureS f14))) (D : Def K mg "permutation_sum" s15 ["square"]) : FnOk P w K mg base CX0 4 D.f D.fd ["square"] (spD K (PureS f15)) := by
  refine fn_defT D.F sc15 (fun xs cs R ⟨_, _, d, ⟨x, _, e, _⟩, _⟩ => by rw [e]; rfl) fun cdv A outer s H E xs cs R hr ⟨hcs, _, d, ⟨rs, ok, hx, hd⟩, hR⟩ => ?_
  subst hcs hx
  have h1 := ok.pos
  have h2 := ok.six
  refine sd_expr (pv_call F12 (hr.mono (by decide)) D12.m D12.F.kp D12.b (pva_cons (pv_var 0) pva_nil) ⟨rs, ok, rfl, rfl⟩) (fun cs' sv ⟨e1, _⟩ => ?_)
  subst e1
  rcases hd with ⟨he, rfl⟩ | ⟨he, c, res, g, run, hlen, rfl⟩
  · refine sd_ifR (PVT.eq (pvt_not (pvt_val (pv_call F13 (hr.mono (by decide)) D13.m D13.F.kp D13.b (pva_cons (pv_var 0) pva_nil) ⟨rs, ok, rfl, rfl⟩))) (show (!evenB rs) = true by rw [he]; rfl)) (fun _ => sd_ret (PV.pd pv_non ⟨trivial, hR⟩)) fun z => by cases z
  refine sd_ifNo (PVT.eq (pvt_not (pvt_val (pv_call F13 (hr.mono (by decide)) D13.m D13.F.kp D13.b (pva_cons (pv_var 0) pva_nil) ⟨rs, ok, rfl, rfl⟩))) (by rw [he]; rfl)) ?_
  have hrl : ∀ r ∈ rs, r.length ≤ 1000000 := fun r hr => by rw [ok.len r hr]; omega
  have zl : (1000000 : Nat) ≤ sizeLine := by decide
  refine sd_tup2 1 2 (Ra := fun cs' xs => cs' = [some (mC rs), some (fC [])] ∧ xs = [.own 0, .own 1]) (pda_cons (Ra := fun cs' sv => cs' = [some (mC rs)] ∧ sv = .own 0) (Rs := fun cs1 sv cs2 xs => cs2 = cs1 ++ [some (fC [])] ∧ xs = [.own cs1.length])
    (pd_lcM (own := [("line", 3)]) (g := gName 3) (h := fun x => match x with | .tuple ys => ys | _ => []) (pvi_tup (pv_var 0)) (blkOk_by (by kernel_rfl)) (fun _ _ _ _ _ => pg_name (i := 3) sc15.nd rfl (Or.inl rfl)) gd_name (by decide) (fun x hx => ⟨_, rfl, fun cs2 s H C cl fp => ?_⟩) ?_ ?_ sc15.nd)
    (fun cs1 sv h => pda_cons (Rs := fun cs1 sv => Is cs1 []) (pd_lstO pva_nil fun cs3 xs ⟨e1, e2⟩ => ⟨[], e2, Nat.zero_le _, by rw [e1]; exact ⟨rfl, rfl⟩⟩ : PD _ _ cs1 _ (fun cs3 sv3 => cs3 = cs1 ++ [some (fC [])] ∧ sv3 = .own cs1.length)) (fun cs3 sv3 _ => pda_nil ⟨rfl, rfl⟩) (fun cs3 sv3 cs4 xs ⟨k1, k2⟩ ⟨k3, k4⟩ => ⟨k3.trans k1, by rw [k2, k4]⟩)) (fun cs1 sv cs2 xs ⟨k1, k2⟩ ⟨k3, k4⟩ => ⟨by rw [k3, k1]; rfl, by rw [k2, k4, k1]; rfl⟩)) (fun cs' xs ⟨e1, e2⟩ => ⟨_, _, e2, ?_⟩) ?_ sc15.nd
  · obtain ⟨r, hr1, rfl⟩ := List.mem_map.mp hx
    exact pd_listT B.list (pva_cons (pv_var 3) pva_nil) (.inr ⟨rfl, rfl⟩)
  · refine ⟨?_, rfl⟩
    show [some (Cell.mat _)] = [some (Cell.mat _)]
    rw [List.map_map]; rfl
  · rw [List.length_map]; omega
  rotate_left
  · first | rfl | exact sw_none rfl rfl rfl
  subst e1
  refine sd_while (fun m ds' cs' => ∃ left found c a1 a2 a3 a4 a5 a6, Good rs.length left c ∧ Runs left found res ∧ m = res.length - found.length ∧ cs' = [some (mC left), some (fC found)] ∧ ds' = dsL (.d (sqD rs)) (.own 0) a1 a2 a3 a4 a5 a6) (res.length - 0) ⟨rs, [], c, none, none, none, none, none, none, g, run, rfl, rfl, rfl⟩ (fun m ds' cs' ⟨left, found, c, a1, a2, a3, a4, a5, a6, g, run, hm, e1, e2⟩ => ?_) .never
  subst e1 e2
  have ll := g.len
  have l6 : left.length ≤ 6 := by rw [ll]; exact h2
  have hrow : ∀ r ∈ left, r.length ≤ 6 := fun r hr => by rw [g.rows r hr]; exact h2
  refine ⟨anyPos left, pvt_val (pv_frz (ds' := dsL (.d (sqD rs)) (.d (matD left)) a1 a2 a3 a4 a5 a6) 0 (mC left) rfl (by rw [mC_data]; exact frz_ds (by simp)) (PV.eq (pv_anyL (bs := left.flatMap fun r => r.map fun x => decide (0 < x)) B.any (pva_cons (PV.eq
    (pv_lc2 (own := [("line", 3), ("item", 4)]) (vs1 := [4]) (f1 := fName 4) (ys := itemsL) (p := fun _ _ => true) (h := hPos) (g := gName 3) (g1 := gName 4) (pvi_list (pv_var 1)) (blkOk_by (by kernel_rfl)) (by decide) (fun _ _ _ _ _ => pg_name (i := 3) sc15.nd rfl (Or.inl rfl)) gd_name (by decide) (fun _ _ _ _ _ => pg_name (i := 4) sc15.nd rfl (Or.inl rfl)) gd_name (by decide) (fun x hx => ?_) ?_ sc15.nd) (by rw [anyPos_data])) pva_nil)) rfl) (.bl _) clf_two), fun hp => ?_, fun hp => ?_⟩
  · obtain ⟨r, hr1, rfl⟩ := List.mem_map.mp hx
    refine ⟨_, rfl, fun s H C cl fp => pvi_list (pv_var 3), fun y hy => ?_⟩
    obtain ⟨n, hn, rfl⟩ := List.mem_map.mp hy
    exact ⟨_, rfl, fun s H C cl fp => pvts_nil ⟨rfl, rfl⟩, fun _ s H C cl fp => pv_gt (pv_var 4) pv_int⟩
  · rw [anyPos_data, List.length_map]
    have : ∀ l : List (List Int), (∀ r ∈ l, r.length ≤ 6) → (l.flatMap fun r => r.map fun x => decide (0 < x)).length ≤ l.length * 6 := fun l => by
      induction l with
      | nil => intro _; simp
      | cons r l ih =>
        intro h
        have h1 := ih fun q hq => h q (by simp [hq])
        have h2 := h r (by simp)
        rw [List.flatMap_cons, List.length_append, List.length_map, List.length_cons]
        omega
    have := this left hrow
    omega
  · obtain ⟨io, rr, hpw⟩ := g.ord hp
    obtain ⟨w1, w2, w3⟩ := g.w hp
    have run' := run.inv hp
    have hfl := run'.le
    rw [List.length_append, List.length_singleton] at hfl
    have io2 := io
    generalize ho : ordOf left = o at io io2 hpw run' w2 w3
    have hol : o.length = rs.length := io.len
    refine sd_asg 5 (sv := .d (tupN o)) (pv_frz (ds' := dsL (.d (sqD rs)) (.d (matD left)) a1 a2 a3 a4 a5 a6) 0 (mC left) rfl (by rw [mC_data]; exact frz_ds (by simp)) (pv_ixL (pv_call F14 (hr.mono (by decide)) D14.m D14.F.kp D14.b (pva_cons (pv_var 1) pva_nil) ⟨left, l6, hrow, rfl, rfl⟩) pv_int (by rw [hpw]; exact atI_nat (j := 0) rfl)) (lf_tupN _) clf_two) ?_ sc15.nd
    refine sd_asg 6 (sv := .d (.int (wOf left))) (pv_frz (ds' := dsL (.d (sqD rs)) (.d (matD left)) a1 a2 (some (.d (tupN o))) a4 a5 a6) 0 (mC left) rfl (by rw [mC_data]; exact frz_ds (by simp)) (pv_minL (ns := picks left o) B.min (pva_cons (PV.eq
      (pv_lc (own := [("k", 7), ("m", 8)]) (f := fPair 7 8) (h := hPick left) (pvi_enumT B.enumerate (pva_cons (pv_var 5) pva_nil)) (blkOk_by (by kernel_rfl)) (fun _ _ _ _ _ => pg_pair 7 8 sc15.nd rfl rfl (Or.inl rfl) (Or.inl rfl)) gd_pair (by decide) (fun x hx => ?_) ?_ sc15.nd) (by rw [picks_data])) pva_nil) ?_ ?_) (.int _) clf_two) ?_ sc15.nd
    · obtain ⟨j, hj⟩ := List.mem_iff_getElem?.mp hx
      obtain ⟨z, hz, rfl⟩ := enD_get hj
      obtain ⟨hjn, ez⟩ := ordD io hz
      subst ez
      obtain ⟨r, q1, q2, _⟩ := g.get hjn (io.isP.lt j hjn)
      refine ⟨_, rfl, fun s H C cl fp => ?_⟩
      refine PV.eq (pv_ixL (xs := r.map .int) (pv_ixL (pv_var 1) (pv_var 7) (atI_nat (by rw [List.getElem?_map, q1]; rfl))) (pv_var 8) (atI_nat (by rw [List.getElem?_map, q2]; rfl))) ?_
      simp [hPick]
    · rw [enD_length, List.length_map]; omega
    · obtain ⟨k, hk, e⟩ := w3
      exact (mem_picks io).mpr ⟨k, hk, e.symm⟩
    · intro y hy
      obtain ⟨k, hk, e⟩ := (mem_picks io).mp hy
      rw [e]; exact w2 k hk
    refine sd_expr (R := fun cs' sv => cs' = [some (mC left), some (fC (found ++ [(wOf left, o)]))]) (pd_append (m := 1) (Ra := Is _ [.d (pairD (wOf left, o))]) (pv_var 2) (pva_cons (pv_tup [.int (wOf left), tupN o] (pva_cons (pv_var 6) (pva_cons (pv_var 5) pva_nil)) rfl (Nat.le_trans (by decide : 2 ≤ 1000000) zl)) pva_nil) (fun cs1 ys ⟨e1, e2⟩ => ⟨_, found.map pairD, e2, by rw [e1]; rfl, by rw [List.length_map]; omega, by rw [e1]; simp⟩) ⟨_, rfl⟩) fun cs' sv e1 => ?_
    subst e1
    refine sd_for (xs := enD (o.map fun k => .int (k : Nat))) (f := fPair 7 8) (fun i ds' cs' => ∃ b1 b2, cs' = [some (mC (decTo i left o (wOf left))), some (fC (found ++ [(wOf left, o)]))] ∧ ds' = dsL (.d (sqD rs)) (.own 0) a1 a2 (some (.d (tupN o))) (some (.d (.int (wOf left)))) b1 b2) (pvi_enumT B.enumerate (pva_cons (pv_var 5) pva_nil)) (pg_pair 7 8 sc15.nd) gd_pair ⟨a5, a6, by rw [decTo_zero], rfl⟩ (fun i x ds' cs' hx ⟨b1, b2, e1, e2⟩ => ?_) (fun ds' cs' ⟨b1, b2, e1, e2⟩ => ?_) .never
    · subst e1 e2
      obtain ⟨z, hz, rfl⟩ := enD_get hx
      obtain ⟨hjn, ez⟩ := ordD io hz
      subst ez
      obtain ⟨r, q1, q2, q3⟩ := g.get hjn (io.isP.lt i hjn)
      have hd1 : (decTo i left o (wOf left))[i]? = some r := decTo_at q1
      have hdl : (decTo i left o (wOf left)).length = rs.length := by simp [decTo, ll]
      refine ⟨_, rfl, sd_augM (u := at2 left i (fn o i)) (v := wOf left) (r := r.map .int) (pv_var 1) (pv_var 7) (pv_var 8) (pv_var 6) ip_sub rfl (atI_nat (by rw [List.getElem?_map, hd1]; rfl)) (by rw [List.length_map, hdl]; exact ixN_n hjn) (atI_nat (by rw [List.getElem?_map, q2]; rfl)) (by rw [List.length_map, q3]; exact ixN_n (io.isP.lt i hjn)) (sd_nil ⟨_, _, ?_, rfl⟩)⟩
      show [some (Cell.mat _), some (fC _)] = [some (Cell.mat _), some (fC _)]
      congr 3
      rw [decTo_succ q1, List.map_set, List.map_set]
    · subst e1 e2
      rw [enD_length, List.length_map]
      have e3 : decTo o.length left o (wOf left) = nextL left := by
        rw [nextL, ho, hol, ll]
      rw [e3]
      exact sd_nil ⟨res.length - (found ++ [(wOf left, o)]).length, by rw [List.length_append, List.length_singleton]; omega, nextL left, _, _, _, _, _, _, _, _, g.next hp, run', rfl, rfl, rfl⟩
  · have hfin := run.fin hp
    subst hfin
    refine sd_freeze (ds' := [some (.d (sqD rs)), some (.own 0), some (.d (.list (found.map pairD))), a1, a2, a3, a4, a5, a6]) 1 (fC found) rfl ⟨rfl, fun i sv q => ?_⟩ ?_
    · match i with
      | 0 => exact .inl q
      | 1 => exact .inl q
      | 2 => simp at q; exact .inr ⟨rfl, q.symm⟩
      | i + 3 => exact .inl q
    refine sd_ret (PV.pd (pv_var 2) ?_)
    exact ⟨trivial, hR⟩
end
end K69
set_option Elab.async false
set_option linter.all false
set_option maxRecDepth 100000
set_option maxHeartbeats 4000000
namespace DL
open PySem
/-! shapes and == of lists of ints, of rows -/
theorem lay_ints : ∀ ns : List Int, PyData.canLayAll0 (ns.map .int) = true
  | [] => by rw [List.map_nil, PyData.canLayAll0]
  | n :: ns => by rw [List.map_cons, PyData.canLayAll0, PyData.canLay0, lay_ints ns]; rfl
theorem dep_ints : ∀ ns : List Int, PyData.depthAll (ns.map .int) = 0
  | [] => by rw [List.map_nil, PyData.depthAll]
  | n :: ns => by rw [List.map_cons, PyData.depthAll, PyData.depth, dep_ints ns]; rfl
theorem lay_all {α : Type} {f : α → PyData} : ∀ {l : List α}, (∀ a ∈ l, (f a).canLay0 = true) → PyData.canLayAll0 (l.map f) = true
  | [], _ => by rw [List.map_nil, PyData.canLayAll0]
  | a :: l, h => by rw [List.map_cons, PyData.canLayAll0, h a (by simp), lay_all fun b hb => h b (by simp [hb])]; rfl
theorem dep_all {α : Type} {f : α → PyData} {n : Nat} : ∀ {l : List α}, (∀ a ∈ l, (f a).depth ≤ n) → PyData.depthAll (l.map f) ≤ n
  | [], _ => by rw [List.map_nil, PyData.depthAll]; exact Nat.zero_le _
  | a :: l, h => by
    rw [List.map_cons, PyData.depthAll]
    exact Nat.max_le.mpr ⟨h a (by simp), dep_all fun b hb => h b (by simp [hb])⟩
theorem shaped_mk {d : PyData} (h : d.canLay0 = true) (k : d.depth ≤ 64) : SeqAt.shaped d = true := by
  unfold SeqAt.shaped
  rw [h, decide_eq_true k]; rfl
theorem shaped_ints (ns : List Int) : SeqAt.shaped (.list (ns.map .int)) = true := shaped_mk (by rw [PyData.canLay0]; exact lay_ints ns) (by rw [PyData.depth, dep_ints]; decide)
theorem shaped_intsT (ns : List Int) : SeqAt.shaped (.tuple (ns.map .int)) = true := shaped_mk (by rw [PyData.canLay0]; exact lay_ints ns) (by rw [PyData.depth, dep_ints]; decide)
theorem shaped_nil : SeqAt.shaped (.list []) = true := shaped_ints []
theorem shaped_rows (rs : List (List Int)) : SeqAt.shaped (.list (rs.map fun r => .list (r.map .int))) = true :=
  shaped_mk (by rw [PyData.canLay0]; exact lay_all fun r _ => by rw [PyData.canLay0]; exact lay_ints r) (by
    rw [PyData.depth]
    have := dep_all (f := fun r : List Int => PyData.list (r.map .int)) (n := 1) (l := rs) fun r _ => by rw [PyData.depth, dep_ints]; decide
    omega)
theorem shaped_rowsT (rs : List (List Int)) : SeqAt.shaped (.tuple (rs.map fun r => .tuple (r.map .int))) = true :=
  shaped_mk (by rw [PyData.canLay0]; exact lay_all fun r _ => by rw [PyData.canLay0]; exact lay_ints r) (by
    rw [PyData.depth]
    have := dep_all (f := fun r : List Int => PyData.tuple (r.map .int)) (n := 1) (l := rs) fun r _ => by rw [PyData.depth, dep_ints]; decide
    omega)
theorem eqv_all {α : Type} [DecidableEq α] {f : α → PyData} (hf : ∀ a b, PyData.eqv (f a) (f b) = decide (a = b)) : ∀ l m : List α, PyData.eqvAll (l.map f) (m.map f) = decide (l = m)
  | [], [] => by simp [PyData.eqvAll]
  | [], b :: m => by simp [PyData.eqvAll]
  | a :: l, [] => by simp [PyData.eqvAll]
  | a :: l, b :: m => by
    rw [List.map_cons, List.map_cons, PyData.eqvAll, hf, eqv_all hf l m, ← Bool.decide_and]
    exact decide_eq_decide.mpr (by simp)
theorem eqv_int (a b : Int) : PyData.eqv (.int a) (.int b) = decide (a = b) := by
  rw [PyData.eqv]
  by_cases h : a = b
  · subst h; simp
  · rw [decide_eq_false h]; simpa using h
theorem eqv_ints (l m : List Int) : PyData.eqv (.list (l.map .int)) (.list (m.map .int)) = decide (l = m) := by rw [PyData.eqv]; exact eqv_all eqv_int l m
theorem eqv_intsT (l m : List Int) : PyData.eqv (.tuple (l.map .int)) (.tuple (m.map .int)) = decide (l = m) := by rw [PyData.eqv]; exact eqv_all eqv_int l m
theorem eqv_rows (l m : List (List Int)) : PyData.eqv (.list (l.map fun r => .list (r.map .int))) (.list (m.map fun r => .list (r.map .int))) = decide (l = m) := by rw [PyData.eqv]; exact eqv_all eqv_ints l m
theorem eqv_rowsT (l m : List (List Int)) : PyData.eqv (.tuple (l.map fun r => .tuple (r.map .int))) (.tuple (m.map fun r => .tuple (r.map .int))) = decide (l = m) := by rw [PyData.eqv]; exact eqv_all eqv_intsT l m
end DL
namespace K69
open PySem PySem.Spec PyProof.Rows L2 DL
abbrev s16 : Stmt := topS 16
theorem sc16 : FnScope ["value", "many", "k"] ["value", "many"] (defScope s16) := ⟨rfl, rfl, rfl, by decide +kernel, rfl, by decide +kernel, by decide +kernel⟩
def intsOf (ps : List PyData) : List Int := ps.map fun | .int i => i | _ => 0
theorem intsOf_map (ns : List Int) : intsOf (ns.map .int) = ns := by
  unfold intsOf
  rw [List.map_map]
  exact List.map_id _
def plB (n : Nat) (ps : List PyData) : Bool := (ps.all fun p => within p 0 ((n : Int) - 1)) && decide ((ddp (intsOf ps)).length = n)
def wtB (n : Nat) : PyData → Bool
  | .tuple [.int w, .tuple ps] => decide (1 ≤ w) && (decide (ps.length = n) && plB n ps)
  | _ => false
theorem ints_of_within {ps : List PyData} {lo hi : Int} (h : (ps.all fun p => within p lo hi) = true) : ps = (intsOf ps).map .int := by
  unfold intsOf
  rw [List.map_map]
  conv => lhs; rw [← List.map_id ps]
  apply List.map_congr_left
  intro p hp
  have := List.all_eq_true.mp h p hp
  cases p <;> simp [within] at this ⊢
theorem tupLen_n {n : Int} : ∀ {x : PyData}, tupLen n x = true → ∃ ps, x = .tuple ps ∧ (ps.length : Int) = n
  | .tuple ps, h => ⟨ps, rfl, by simpa [tupLen] using h⟩
  | .none, h => by cases h
  | .bool _, h => by cases h
  | .int _, h => by cases h
  | .str _, h => by cases h
  | .list _, h => by cases h
  | .dict _, h => by cases h
theorem tupLen_two {x : PyData} (h : tupLen 2 x = true) : ∃ a b, x = .tuple [a, b] := by
  obtain ⟨ps, rfl, hl⟩ := tupLen_n h
  match ps, hl with
  | [a, b], _ => exact ⟨a, b, rfl⟩
  | [], hl => simp at hl
  | [_], hl => simp at hl
  | _ :: _ :: _ :: _, hl => simp at hl; omega
def f16 : List SV → PyData → Prop := fun xs d => ∃ x n, n ≤ 6 ∧ xs = [.d x, .d (.int (n : Nat))] ∧ d = .bool (wtB n x)
section
variable {P : Program} {w : World} {K : PySem.W.Frag} {mg : Str → Option Value} {base : Heap}
theorem ok16 (B : Bl mg) (D4 : Def K mg "is_integer" s4 ["value"]) (F4 : FnOk P w K mg base CX0 1 D4.f D4.fd ["value"] (spD K (PureS f4))) (D6 : Def K mg "is_index" s6 ["value", "many"]) (F6 : FnOk P w K mg base CX0 3 D6.f D6.fd ["value", "many"] (spD K (PureS f6)))
    (D8 : Def K mg "is_tuple" s8 ["value", "many"]) (F8 : FnOk P w K mg base CX0 1 D8.f D8.fd ["value", "many"] (spD K (PureS f8))) (D : Def K mg "is_weighted" s16 ["value", "many"]) : FnOk P w K mg base CX0 4 D.f D.fd ["value", "many"] (spD K (PureS f16)) := by
  refine fn_def D.F sc16 (fun xs cs R ⟨_, _, d, ⟨x, _, _, e, _⟩, _⟩ => by rw [e]; rfl) fun cdv A outer s H E xs cs R hr ⟨hcs, _, d, ⟨x, n, hn, hx, hd⟩, hR⟩ => ?_
  subst hcs hx hd
  by_cases h2 : tupLen 2 x = true
  rotate_left
  · have h2' : tupLen 2 x = false := by simpa using h2
    have hw : wtB n x = false := by
      unfold wtB
      split
      · simp [tupLen] at h2'
      · rfl
    rw [hw] at hR
    refine sd_ifR (p := true) (PVT.eq (pvt_or (q := true) (pvt_not (pvt_val (pv_call F8 (hr.mono (by decide)) D8.m D8.F.kp D8.b (pva_cons (pv_var 0) (pva_cons pv_int pva_nil)) ⟨_, _, rfl, rfl⟩))) fun h => by rw [h2'] at h; cases h) (by rw [h2']; rfl)) (fun _ => sd_ret (PV.pd pv_bl ?_)) fun z => by cases z
    exact hR
  obtain ⟨a, b, rfl⟩ := tupLen_two h2
  by_cases h3 : isInt a = true
  rotate_left
  · have h3' : isInt a = false := by simpa using h3
    have hw : wtB n (.tuple [a, b]) = false := by
      unfold wtB
      split
      · rename_i e; cases e; simp [isInt] at h3'
      · rfl
    rw [hw] at hR
    refine sd_ifR (p := true) (PVT.eq (pvt_or (pvt_not (pvt_val (pv_call F8 (hr.mono (by decide)) D8.m D8.F.kp D8.b (pva_cons (pv_var 0) (pva_cons pv_int pva_nil)) ⟨_, _, rfl, rfl⟩))) fun _ => pvw_or (q := true) (pvt_not (pvt_val (pv_call F4 (hr.mono (by decide)) D4.m D4.F.kp D4.b (pva_cons (pv_ixT (pv_var 0) pv_int (atI_nat (j := 0) rfl)) pva_nil) ⟨_, rfl, rfl⟩))) fun h => by rw [h3'] at h; cases h) (by rw [h3']; rfl)) (fun _ => sd_ret (PV.pd pv_bl ?_)) fun z => by cases z
    exact hR
  obtain ⟨wt, rfl⟩ : ∃ wt, a = .int wt := by
    cases a <;> simp [isInt] at h3
    exact ⟨_, rfl⟩
  by_cases h4 : 1 ≤ wt
  rotate_left
  · have hw : wtB n (.tuple [.int wt, b]) = false := by
      unfold wtB
      split
      · rename_i e; cases e; rw [decide_eq_false h4]; rfl
      · rfl
    rw [hw] at hR
    refine sd_ifR (p := true) (PVT.eq (pvt_or (pvt_not (pvt_val (pv_call F8 (hr.mono (by decide)) D8.m D8.F.kp D8.b (pva_cons (pv_var 0) (pva_cons pv_int pva_nil)) ⟨_, _, rfl, rfl⟩))) fun _ => pvw_or (pvt_not (pvt_val (pv_call F4 (hr.mono (by decide)) D4.m D4.F.kp D4.b (pva_cons (pv_ixT (pv_var 0) pv_int (atI_nat (j := 0) rfl)) pva_nil) ⟨_, rfl, rfl⟩))) fun _ => pvw_or (q := true) (pvt_lt (pv_ixT (pv_var 0) pv_int (atI_nat (j := 0) rfl)) pv_int) fun h => absurd (of_decide_eq_false h) (by omega)) (by rw [decide_eq_true (by omega : wt < 1)]; simp)) (fun _ => sd_ret (PV.pd pv_bl ?_)) fun z => by cases z
    exact hR
  by_cases h5 : tupLen n b = true
  rotate_left
  · have h5' : tupLen n b = false := by simpa using h5
    have hw : wtB n (.tuple [.int wt, b]) = false := by
      unfold wtB
      split
      · rename_i ps e
        cases e
        have : ¬ ps.length = n := fun z => by simp [tupLen, z] at h5'
        rw [decide_eq_false this]; simp
      · rfl
    rw [hw] at hR
    refine sd_ifR (p := true) (PVT.eq (pvt_or (pvt_not (pvt_val (pv_call F8 (hr.mono (by decide)) D8.m D8.F.kp D8.b (pva_cons (pv_var 0) (pva_cons pv_int pva_nil)) ⟨_, _, rfl, rfl⟩))) fun _ => pvw_or (pvt_not (pvt_val (pv_call F4 (hr.mono (by decide)) D4.m D4.F.kp D4.b (pva_cons (pv_ixT (pv_var 0) pv_int (atI_nat (j := 0) rfl)) pva_nil) ⟨_, rfl, rfl⟩))) fun _ => pvw_or (pvt_lt (pv_ixT (pv_var 0) pv_int (atI_nat (j := 0) rfl)) pv_int) fun _ => pvw_or1 (pvt_not (pvt_val (pv_call F8 (hr.mono (by decide)) D8.m D8.F.kp D8.b (pva_cons (pv_ixT (pv_var 0) pv_int (atI_nat (j := 1) rfl)) (pva_cons (pv_var 1) pva_nil)) ⟨_, _, rfl, rfl⟩)))) (by rw [h5']; simp)) (fun _ => sd_ret (PV.pd pv_bl ?_)) fun z => by cases z
    exact hR
  obtain ⟨ps, rfl, hps0⟩ := tupLen_n h5
  have hps : ps.length = n := by omega
  have hw : wtB n (.tuple [.int wt, .tuple ps]) = plB n ps := by
    unfold wtB
    simp only
    rw [decide_eq_true h4, decide_eq_true hps]; simp
  rw [hw] at hR
  refine sd_ifNo (PVT.eq (pvt_or (pvt_not (pvt_val (pv_call F8 (hr.mono (by decide)) D8.m D8.F.kp D8.b (pva_cons (pv_var 0) (pva_cons pv_int pva_nil)) ⟨_, _, rfl, rfl⟩))) fun _ => pvw_or (pvt_not (pvt_val (pv_call F4 (hr.mono (by decide)) D4.m D4.F.kp D4.b (pva_cons (pv_ixT (pv_var 0) pv_int (atI_nat (j := 0) rfl)) pva_nil) ⟨_, rfl, rfl⟩))) fun _ => pvw_or (pvt_lt (pv_ixT (pv_var 0) pv_int (atI_nat (j := 0) rfl)) pv_int) fun _ => pvw_or1 (pvt_not (pvt_val (pv_call F8 (hr.mono (by decide)) D8.m D8.F.kp D8.b (pva_cons (pv_ixT (pv_var 0) pv_int (atI_nat (j := 1) rfl)) (pva_cons (pv_var 1) pva_nil)) ⟨_, _, rfl, rfl⟩)))) (by rw [h5, h2, h3, decide_eq_false (by omega : ¬ wt < 1)]; rfl)) ?_
  refine sd_ret (PV.pd (pv_and (p := ps.all fun p => within p 0 ((n : Int) - 1)) (q := decide ((ddp (intsOf ps)).length = n)) (PV.eq (pv_allL (bs := ps.map fun p => within p 0 ((n : Int) - 1)) B.all (pva_cons (PV.eq (pv_lc (own := [("k", 2)]) (g := gName 2) (h := fun p => .bool (within p 0 ((n : Int) - 1))) (pvi_tup (pv_ixT (pv_var 0) pv_int (atI_nat (j := 1) rfl))) (blkOk_by (by kernel_rfl)) (fun _ _ _ _ _ => pg_name (i := 2) sc16.nd rfl (Or.inl rfl)) gd_name (by decide) (fun x hx => ⟨_, rfl, fun s H C cl fp => ?_⟩) ?_ sc16.nd) ?_) pva_nil)) ?_) fun h => pd_last (PV.eq (pv_eqI (pv_lenSet (ns := intsOf ps) (ddp (intsOf ps)) B.len B.set (.inr (PV.eq (pv_ixT (pv_var 0) pv_int (atI_nat (j := 1) rfl)) ?_)) ?_ (ddp_nodup _) fun k => ddp_mem k _) (pv_var 1)) ?_)) ?_)
  · exact pv_call F6 (hr.mono (by decide)) D6.m D6.F.kp D6.b (pva_cons (pv_var 2) (pva_cons (pv_var 1) pva_nil)) ⟨_, _, rfl, rfl⟩
  · omega
  · rw [List.map_map]; rfl
  · rw [List.all_map]; rfl
  · rw [← ints_of_within h]
  · rw [intsOf, List.length_map]; omega
  · congr 2
    exact decide_eq_decide.mpr (by omega)
  exact hR
end
end K69
set_option Elab.async false
set_option linter.all false
set_option maxRecDepth 100000
set_option maxHeartbeats 4000000
namespace DL
open PySem PySem.Spec PyProof.Rows L2
section
variable {X : Cx} {e a : Expr} {ds : Slots} {cs : Cells} {pos p : Pos} {tg : Expr} {v : PyData} {xs : List PyData}
theorem pvi_seq (h : PV X ds cs e (.d v)) (hv : v = .list xs ∨ v = .tuple xs) : PVI X ds cs tg e xs := by
  rcases hv with rfl | rfl
  · exact pvi_list h
  · exact pvi_tup h
theorem pv_lenS (hm : X.mg "len" = none) (ha : PVA X ds cs [a] [.d v]) (hv : v = .list xs ∨ v = .tuple xs) (hg : Gl X "len" := by rfl) (he : starEach [a] X.env = (false, eval a X.env) :: starEach [] X.env := by rfl) (hpl : (backTo pos (starEach [] X.env)).any (·.1) = false := by rfl) : PV X ds cs (.Call (.Name "len" p) [a] [] pos) (.d (.int xs.length)) := by
  rcases hv with rfl | rfl
  · exact pv_lenL hm ha hg he hpl
  · exact pv_lenT hm ha hg he hpl
end
end DL
namespace K69
open PySem PySem.Spec PyProof.Rows L2 DL
abbrev s17 : Stmt := topS 17
theorem sc17 : FnScope ["square", "value", "many", "item", "sums", "k", "weight", "order", "m", "line"] ["square", "value"] (defScope s17) := ⟨rfl, rfl, rfl, by decide +kernel, rfl, by decide +kernel, by decide +kernel⟩
structure Rect (n : Nat) (M : List (List Int)) : Prop where
  len : M.length = n
  rows : ∀ r ∈ M, r.length = n
theorem Rect.get {n : Nat} {left : List (List Int)} (g : Rect n left) {k j : Nat} (hk : k < n) (hj : j < n) : ∃ r, left[k]? = some r ∧ r[j]? = some (at2 left k j) ∧ r.length = n := by
  have h1 : k < left.length := by rw [g.len]; exact hk
  have h2 : left[k]? = some left[k] := by simp [h1]
  have h3 := g.rows left[k] (List.getElem_mem h1)
  have h4 : j < left[k].length := by omega
  have h5 : left[k][j]? = some left[k][j] := by simp [h4]
  exact ⟨left[k], h2, by rw [at2_eq h2 h5]; exact h5, h3⟩
theorem mat_ext {n : Nat} {A B : List (List Int)} (ha : Rect n A) (hb : Rect n B) (h : ∀ k j, k < n → j < n → at2 A k j = at2 B k j) : A = B := by
  apply List.ext_getElem?
  intro k
  by_cases hk : k < n
  · have h1 : k < A.length := by rw [ha.len]; exact hk
    have h2 : k < B.length := by rw [hb.len]; exact hk
    rw [List.getElem?_eq_getElem h1, List.getElem?_eq_getElem h2]
    congr 1
    apply List.ext_getElem?
    intro j
    have l1 := ha.rows _ (List.getElem_mem h1)
    have l2 := hb.rows _ (List.getElem_mem h2)
    by_cases hj : j < n
    · obtain ⟨r, q1, q2, _⟩ := ha.get hk hj
      obtain ⟨r', q3, q4, _⟩ := hb.get hk hj
      rw [List.getElem?_eq_getElem h1] at q1
      rw [List.getElem?_eq_getElem h2] at q3
      cases q1; cases q3
      rw [q2, q4, h k j hk hj]
    · rw [List.getElem?_eq_none (by omega), List.getElem?_eq_none (by omega)]
  · rw [List.getElem?_eq_none (by rw [ha.len]; omega), List.getElem?_eq_none (by rw [hb.len]; omega)]
theorem rect_decTo {n : Nat} {left : List (List Int)} (g : Rect n left) {i : Nat} {o : List Nat} {w : Int} : Rect n (decTo i left o w) := by
  refine ⟨by simp [decTo, g.len], fun r hr => ?_⟩
  unfold decTo at hr
  obtain ⟨p, hp, rfl⟩ := List.mem_map.mp hr
  obtain ⟨i, hi⟩ := List.mem_iff_getElem?.mp hp
  rw [List.getElem?_zipIdx] at hi
  cases q : left[i]? with
  | none => rw [q] at hi; cases hi
  | some r =>
    rw [q] at hi
    simp at hi
    have := g.rows r (List.mem_of_getElem? q)
    rw [← hi]
    split
    · simp [this]
    · exact this
theorem at2_decToR {n : Nat} {left : List (List Int)} (g : Rect n left) {i : Nat} {o : List Nat} {w : Int} (ho : ∀ k, k < n → fn o k < n) {k j : Nat} (hk : k < n) (hj : j < n) : at2 (decTo i left o w) k j = at2 left k j - (if k < i ∧ j = fn o k then w else 0) := by
  obtain ⟨r, h1, h2, h3⟩ := g.get hk hj
  have e : (decTo i left o w)[k]? = some (if k < i then r.set (fn o k) (at2 left k (fn o k) - w) else r) := by
    unfold decTo
    rw [List.getElem?_map, List.getElem?_zipIdx, h1]
    simp
    rfl
  by_cases hi : k < i
  · rw [if_pos hi] at e
    by_cases hj2 : j = fn o k
    · rw [if_pos ⟨hi, hj2⟩]
      refine at2_eq e ?_
      rw [hj2, List.getElem?_set_self (by rw [h3]; exact ho k hk)]
    · rw [if_neg (fun z => hj2 z.2)]
      have : at2 (decTo i left o w) k j = at2 left k j := at2_eq e (by rw [List.getElem?_set_ne (fun z => hj2 z.symm)]; exact h2)
      omega
  · rw [if_neg hi] at e
    rw [if_neg (fun z => hi z.1)]
    have : at2 (decTo i left o w) k j = at2 left k j := at2_eq e h2
    omega
/-- the sum of weighted places -/
def addR (n : Nat) (ps : List (Int × List Int)) : List (List Int) := (List.range n).map fun (k : Nat) => (List.range n).map fun (j : Nat) => S ps fun p => if p.2.getD k (-1) = (j : Int) then p.1 else 0
theorem rect_addR (n : Nat) (ps : List (Int × List Int)) : Rect n (addR n ps) := ⟨by simp [addR], fun r hr => by
  obtain ⟨k, _, rfl⟩ := List.mem_map.mp hr
  simp⟩
theorem at2_addR {n : Nat} {ps : List (Int × List Int)} {k j : Nat} (hk : k < n) (hj : j < n) : at2 (addR n ps) k j = S ps fun p => if p.2.getD k (-1) = (j : Int) then p.1 else 0 := by
  refine at2_eq (r := (List.range n).map fun (j : Nat) => S ps fun p => if p.2.getD k (-1) = (j : Int) then p.1 else 0) ?_ ?_
  · unfold addR
    rw [List.getElem?_map, List.getElem?_range hk]; rfl
  · rw [List.getElem?_map, List.getElem?_range hj]; rfl
/-- places within 0 .. n - 1 -/
structure InN (n : Nat) (ns : List Int) : Prop where
  len : ns.length = n
  lo : ∀ x ∈ ns, 0 ≤ x ∧ x < n
theorem fn_toNat {n : Nat} {ns : List Int} (h : InN n ns) {k : Nat} (hk : k < n) : ns[k]? = some ((fn (ns.map Int.toNat) k : Nat) : Int) ∧ fn (ns.map Int.toNat) k < n := by
  have hl : k < ns.length := by rw [h.len]; exact hk
  have h1 := h.lo ns[k] (List.getElem_mem hl)
  have e : fn (ns.map Int.toNat) k = ns[k].toNat := by
    unfold fn
    rw [List.getD_eq_getElem?_getD, List.getElem?_map, List.getElem?_eq_getElem hl]; rfl
  rw [e, List.getElem?_eq_getElem hl]
  refine ⟨by congr 1; omega, by omega⟩
theorem addR_step {n : Nat} {ps : List (Int × List Int)} {i : Nat} {p : Int × List Int} (h : ps[i]? = some p) (hp : InN n p.2) : decTo n (addR n (ps.take i)) (p.2.map Int.toNat) (-p.1) = addR n (ps.take (i + 1)) := by
  refine mat_ext (rect_decTo (rect_addR _ _)) (rect_addR _ _) fun k j hk hj => ?_
  rw [at2_decToR (rect_addR _ _) (fun k hk => (fn_toNat hp hk).2) hk hj, at2_addR hk hj, at2_addR hk hj, List.take_add_one, h]
  have e : ∀ (l : List (Int × List Int)) (f : Int × List Int → Int), S (l ++ (some p).toList) f = S l f + f p := fun l f => by simp [S]
  rw [e]
  have h1 := (fn_toNat hp hk).1
  have h2 : p.2.getD k (-1) = ((fn (p.2.map Int.toNat) k : Nat) : Int) := by rw [List.getD_eq_getElem?_getD, h1]; rfl
  rw [h2]
  by_cases hq : j = fn (p.2.map Int.toNat) k
  · rw [if_pos ⟨hk, hq⟩, if_pos (by rw [← hq])]; omega
  · rw [if_neg (fun z => hq z.2), if_neg (fun z => hq (by omega))]; omega
theorem addR_nil (n : Nat) : addR n [] = (List.range n).map fun _ => List.replicate n 0 := by
  unfold addR
  apply List.map_congr_left
  intro k _
  apply List.ext_getElem
  · simp
  · intro i h1 h2
    simp [S]
def pairOf : PyData → Int × List Int
  | .tuple [.int w, .tuple ps] => (w, intsOf ps)
  | _ => (0, [])
def pairsOf (xs : List PyData) : List (Int × List Int) := xs.map pairOf
def seqB (rs : List (List Int)) (xs : List PyData) : Bool := decide (xs.length ≤ (rs.length - 1) * (rs.length - 1) + 1) && (xs.all (wtB rs.length) && decide (addR rs.length (pairsOf xs) = rs))
def isB (rs : List (List Int)) : PyData → Bool
  | .none => !evenB rs
  | .list xs => seqB rs xs
  | .tuple xs => seqB rs xs
  | _ => false
def f17 : List SV → PyData → Prop := fun xs d => ∃ rs v, SqOk rs ∧ xs = [.d (sqD rs), .d v] ∧ d = .bool (isB rs v)
theorem wtB_get {n : Nat} {x : PyData} (h : wtB n x = true) : ∃ w ns, x = .tuple [.int w, .tuple (ns.map .int)] ∧ 1 ≤ w ∧ InN n ns ∧ (ddp ns).length = n ∧ pairOf x = (w, ns) := by
  unfold wtB at h
  split at h
  · rename_i w ps
    simp only [Bool.and_eq_true, plB] at h
    obtain ⟨h1, h2, h3, h4⟩ := h
    have e := ints_of_within h3
    refine ⟨w, intsOf ps, by rw [← e], of_decide_eq_true h1, ⟨by rw [intsOf, List.length_map]; exact of_decide_eq_true h2, fun y hy => ?_⟩, of_decide_eq_true h4, rfl⟩
    have := List.all_eq_true.mp h3 (.int y) (by rw [e]; exact List.mem_map.mpr ⟨y, hy, rfl⟩)
    simp [within] at this
    omega
  · cases h
end K69
set_option Elab.async false
set_option linter.all false
set_option maxRecDepth 100000
set_option maxHeartbeats 4000000
namespace K69
open PySem PySem.Spec PyProof.Rows L2 DL
theorem isB_other {rs : List (List Int)} {v : PyData} (h1 : v ≠ .none) (h2 : isSeq v = false) : isB rs v = false := by
  cases v <;> simp [isSeq, isB] at h1 h2 ⊢
theorem isB_seq {rs : List (List Int)} {v : PyData} {xs : List PyData} (h : v = .list xs ∨ v = .tuple xs) : isB rs v = seqB rs xs := by
  rcases h with rfl | rfl <;> rfl
theorem isSeq_get : ∀ {v : PyData}, isSeq v = true → ∃ xs, v = .list xs ∨ v = .tuple xs
  | .list xs, _ => ⟨xs, .inl rfl⟩
  | .tuple xs, _ => ⟨xs, .inr rfl⟩
  | .none, h => by cases h
  | .bool _, h => by cases h
  | .int _, h => by cases h
  | .str _, h => by cases h
  | .dict _, h => by cases h
theorem isSeq_not {v : PyData} {xs : List PyData} (h : v = .list xs ∨ v = .tuple xs) : isSeq v = true ∧ isNoneD v = false := by
  rcases h with rfl | rfl <;> exact ⟨rfl, rfl⟩
section
variable {P : Program} {w : World} {K : PySem.W.Frag} {mg : Str → Option Value} {base : Heap}
theorem ok17 (B : Bl mg) (D7 : Def K mg "is_list" s7 ["value"]) (F7 : FnOk P w K mg base CX0 1 D7.f D7.fd ["value"] (spD K (PureS f7))) (D12 : Def K mg "check_square" s12 ["square"]) (F12 : FnOk P w K mg base CX0 3 D12.f D12.fd ["square"] (spD K (PureS f12))) (D13 : Def K mg "is_even" s13 ["square"]) (F13 : FnOk P w K mg base CX0 1 D13.f D13.fd ["square"] (spD K (PureS f13)))
    (D16 : Def K mg "is_weighted" s16 ["value", "many"]) (F16 : FnOk P w K mg base CX0 4 D16.f D16.fd ["value", "many"] (spD K (PureS f16))) (D : Def K mg "is_permutation_sum" s17 ["square", "value"]) : FnOk P w K mg base CX0 5 D.f D.fd ["square", "value"] (spD K (PureS f17)) := by
  refine fn_defT D.F sc17 (fun xs cs R ⟨_, _, d, ⟨x, _, _, e, _⟩, _⟩ => by rw [e]; rfl) fun cdv A outer s H E xs cs R hr ⟨hcs, _, d, ⟨rs, v, ok, hx, hd⟩, hR⟩ => ?_
  subst hcs hx hd
  have h1 := ok.pos
  have h2 := ok.six
  have zl : (1000000 : Nat) ≤ sizeLine := by decide
  refine sd_expr (pv_call F12 (hr.mono (by decide)) D12.m D12.F.kp D12.b (pva_cons (pv_var 0) pva_nil) ⟨rs, ok, rfl, rfl⟩) (fun cs' sv ⟨e1, _⟩ => ?_)
  subst e1
  refine sd_asg 2 (sv := .d (.int (rs.length : Nat))) (PV.eq (pv_lenT B.len (pva_cons (pv_var 0) pva_nil)) (by rw [List.length_map])) ?_ sc17.nd
  have eN : ∀ {v : PyData}, isNoneD v = true → v = .none := fun {v} h => by cases v <;> simp [isNoneD] at h ⊢
  refine sd_ifR (pvt_isN (pv_var 1)) (fun hp => ?_) (fun hp => ?_)
  · have := eN hp
    subst this
    refine sd_ret (PV.pd (pv_not (pv_call F13 (hr.mono (by decide)) D13.m D13.F.kp D13.b (pva_cons (pv_var 0) pva_nil) ⟨rs, ok, rfl, rfl⟩)) ?_)
    exact ⟨trivial, hR⟩
  have hnn : v ≠ .none := fun e => by rw [e] at hp; cases hp
  by_cases hs : isSeq v = true
  rotate_left
  · have hs' : isSeq v = false := by simpa using hs
    rw [isB_other hnn hs'] at hR
    refine sd_ifR (p := true) (PVT.eq (pvt_or (q := true) (pvt_not (pvt_val (pv_call F7 (hr.mono (by decide)) D7.m D7.F.kp D7.b (pva_cons (pv_var 1) pva_nil) ⟨_, rfl, rfl⟩))) fun h => by rw [hs'] at h; cases h) (by rw [hs']; rfl)) (fun _ => sd_ret (PV.pd pv_bl ?_)) fun z => by cases z
    exact ⟨trivial, hR⟩
  obtain ⟨xs, hv⟩ := isSeq_get hs
  rw [isB_seq hv] at hR
  have hn2 : ((rs.length : Int) - 1) * ((rs.length : Int) - 1) + 1 = (((rs.length - 1) * (rs.length - 1) + 1 : Nat) : Int) := by
    have : (rs.length : Int) - 1 = ((rs.length - 1 : Nat) : Int) := by omega
    rw [this]
    simp
  refine sd_ifR (p := decide (((rs.length - 1) * (rs.length - 1) + 1) < xs.length)) (PVT.eq (pvt_or (pvt_not (pvt_val (pv_call F7 (hr.mono (by decide)) D7.m D7.F.kp D7.b (pva_cons (pv_var 1) pva_nil) ⟨_, rfl, rfl⟩))) fun _ => pvw_or1 (pvt_gt (pv_lenS B.len (pva_cons (pv_var 1) pva_nil) hv) (pv_add (pv_mul (pv_sub (pv_var 2) pv_int) (pv_sub (pv_var 2) pv_int) (.inl (by omega))) pv_int))) ?_) (fun hl => ?_) (fun hl => ?_)
  · rw [hs, hn2]
    simp only [Bool.not_true, Bool.false_or]
    exact decide_eq_decide.mpr (by omega)
  · refine sd_ret (PV.pd pv_bl ?_)
    have : seqB rs xs = false := by
      unfold seqB
      rw [decide_eq_false (by have := of_decide_eq_true hl; omega)]; rfl
    rw [this] at hR
    exact ⟨trivial, hR⟩
  have hlen : xs.length ≤ (rs.length - 1) * (rs.length - 1) + 1 := by have := of_decide_eq_false hl; omega
  have hlen2 : xs.length ≤ 1000 := by
    have : (rs.length - 1) * (rs.length - 1) ≤ 5 * 5 := Nat.mul_le_mul (by omega) (by omega)
    omega
  refine sd_ifR (p := !(xs.all (wtB rs.length))) (PVT.eq (pvt_not (pvt_val (pv_allL (bs := xs.map (wtB rs.length)) B.all (pva_cons (PV.eq (pv_lc (own := [("item", 3)]) (g := gName 3) (h := fun x => .bool (wtB rs.length x)) (pvi_seq (pv_var 1) hv) (blkOk_by (by kernel_rfl)) (fun _ _ _ _ _ => pg_name (i := 3) sc17.nd rfl (Or.inl rfl)) gd_name (by decide) (fun x hx => ⟨_, rfl, fun s H C cl fp => ?_⟩) ?_ sc17.nd) ?_) pva_nil)))) ?_) (fun hp => ?_) (fun hp => ?_)
  · exact pv_call F16 (hr.mono (by decide)) D16.m D16.F.kp D16.b (pva_cons (pv_var 3) (pva_cons (pv_var 2) pva_nil)) ⟨_, _, h2, rfl, rfl⟩
  · omega
  · rw [List.map_map]; rfl
  · rw [List.all_map]; rfl
  · refine sd_ret (PV.pd pv_bl ?_)
    have : seqB rs xs = false := by
      unfold seqB
      have h : xs.all (wtB rs.length) = false := by simpa using hp
      rw [h]; simp
    rw [this] at hR
    exact ⟨trivial, hR⟩
  have hall : xs.all (wtB rs.length) = true := by simpa using hp
  have hsb : seqB rs xs = decide (addR rs.length (pairsOf xs) = rs) := by
    unfold seqB
    rw [decide_eq_true hlen, hall]; rfl
  rw [hsb] at hR
  refine sd_asgLcM 4 (own := [("k", 5)]) (g := gName 5) (h := fun _ => (List.replicate rs.length 0).map .int) (pvi_range B.range (pva_cons (pv_var 2) pva_nil) ⟨by omega, by omega⟩) (blkOk_by (by kernel_rfl)) (fun _ _ _ _ _ => pg_name (i := 5) sc17.nd rfl (Or.inl rfl)) gd_name (by decide) (fun x hx => ⟨_, rfl, fun cs2 s H C cl fp => ?_⟩) ?_ ?_ sc17.nd
  · refine pd_repLO (xs := [.int 0]) (pv_lst [.int 0] (pva_cons pv_int pva_nil) rfl) (pv_var 2) ⟨by omega, by omega⟩ ?_ ⟨?_, rfl⟩
    · simp; omega
    · simp [List.map_replicate]
  · rw [rgD_length]; omega
  have e0 : (rgD 0 (rs.length : Int).toNat).map (fun _ => (List.replicate rs.length 0).map PyData.int) = (addR rs.length ((pairsOf xs).take 0)).map fun r => r.map .int := by
    rw [List.take_zero, addR_nil, List.map_map]
    unfold rgD
    rw [List.map_map]
    simp

  rw [e0]
  refine sd_for (xs := xs) (f := fPair 6 7) (fun i ds' cs' => ∃ a1 a2 a3 a4 a5 a6, cs' = [some (mC (addR rs.length ((pairsOf xs).take i)))] ∧ ds' = [some (.d (sqD rs)), some (.d v), some (.d (.int (rs.length : Nat))), a1, some (.own 0), a2, a3, a4, a5, a6]) (pvi_seq (pv_var 1) hv) (pg_pair 6 7 sc17.nd) gd_pair ⟨_, _, _, _, _, _, rfl, rfl⟩ (fun i x ds' cs' hx ⟨a1, a2, a3, a4, a5, a6, e1, e2⟩ => ?_) (fun ds' cs' ⟨a1, a2, a3, a4, a5, a6, e1, e2⟩ => ?_) .never
  · subst e1 e2
    have hw := List.all_eq_true.mp hall x (List.mem_of_getElem? hx)
    obtain ⟨wt, ns, rfl, hw1, hin, hdd, hpo⟩ := wtB_get hw
    refine ⟨_, rfl, ?_⟩
    have hp : (pairsOf xs)[i]? = some (wt, ns) := by unfold pairsOf; rw [List.getElem?_map, hx]; rw [← hpo]; rfl
    refine sd_for (xs := enD (ns.map .int)) (f := fPair 5 8) (fun j ds' cs' => ∃ b1 b2, cs' = [some (mC (decTo j (addR rs.length ((pairsOf xs).take i)) (ns.map Int.toNat) (-wt)))] ∧ ds' = [some (.d (sqD rs)), some (.d v), some (.d (.int (rs.length : Nat))), a1, some (.own 0), b1, some (.d (.int wt)), some (.d (.tuple (ns.map .int))), b2, a6]) (pvi_enumT B.enumerate (pva_cons (pv_var 7) pva_nil)) (pg_pair 5 8 sc17.nd) gd_pair ⟨_, _, by rw [decTo_zero], rfl⟩ (fun j y ds' cs' hy ⟨b1, b2, e1, e2⟩ => ?_) (fun ds' cs' ⟨b1, b2, e1, e2⟩ => ?_) .never
    · subst e1 e2
      obtain ⟨z, hz, rfl⟩ := enD_get hy
      rw [List.getElem?_map] at hz
      have hjn : j < rs.length := by
        cases q : ns[j]? with
        | none => rw [q] at hz; cases hz
        | some t => have := (List.getElem?_eq_some_iff.mp q).1; rw [hin.len] at this; exact this
      obtain ⟨q1, q2⟩ := fn_toNat hin hjn
      rw [q1] at hz
      cases hz
      have hM := rect_addR rs.length ((pairsOf xs).take i)
      obtain ⟨r, r1, r2, r3⟩ := hM.get hjn q2
      have hd1 : (decTo j (addR rs.length ((pairsOf xs).take i)) (ns.map Int.toNat) (-wt))[j]? = some r := decTo_at r1
      have hdl : (decTo j (addR rs.length ((pairsOf xs).take i)) (ns.map Int.toNat) (-wt)).length = rs.length := by simp [decTo, hM.len]
      refine ⟨_, rfl, sd_augM (u := at2 (addR rs.length ((pairsOf xs).take i)) j (fn (ns.map Int.toNat) j)) (v := wt) (r := r.map .int) (pv_var 4) (pv_var 5) (pv_var 8) (pv_var 6) ip_add rfl (atI_nat (by rw [List.getElem?_map, hd1]; rfl)) (by rw [List.length_map, hdl]; exact ixN_n hjn) (atI_nat (by rw [List.getElem?_map, r2]; rfl)) (by rw [List.length_map, r3]; exact ixN_n q2) (sd_nil ⟨_, _, ?_, rfl⟩)⟩
      show [some (Cell.mat _)] = [some (Cell.mat _)]
      congr 3
      rw [decTo_succ r1, List.map_set, List.map_set, Int.sub_neg]
    · subst e1 e2
      have hM := rect_addR rs.length ((pairsOf xs).take i)
      have e3 : decTo (enD (ns.map PyData.int)).length (addR rs.length ((pairsOf xs).take i)) (ns.map Int.toNat) (-wt) = addR rs.length ((pairsOf xs).take (i + 1)) := by
        rw [enD_length, List.length_map, hin.len]
        exact addR_step hp hin
      rw [e3]
      exact sd_nil ⟨_, _, _, _, _, _, rfl, rfl⟩
  · subst e1 e2
    have e4 : (pairsOf xs).take xs.length = pairsOf xs := by
      have : xs.length = (pairsOf xs).length := by simp [pairsOf]
      rw [this, List.take_length]
    rw [e4]
    refine sd_freeze (ds' := [some (.d (sqD rs)), some (.d v), some (.d (.int (rs.length : Nat))), a1, some (.d (matD (addR rs.length (pairsOf xs)))), a2, a3, a4, a5, a6]) 0 (mC (addR rs.length (pairsOf xs))) rfl ⟨rfl, fun i sv q => ?_⟩ ?_
    · rw [mC_data]
      match i with
      | 0 => exact .inl q
      | 1 => exact .inl q
      | 2 => exact .inl q
      | 3 => exact .inl q
      | 4 => simp at q; exact .inr ⟨rfl, q.symm⟩
      | i + 5 => exact .inl q
    refine sd_ret (PV.pd (pv_eqD hr.units (pv_var 4) (PV.eq (pv_lc (own := [("line", 9)]) (g := gName 9) (h := fun x => match x with | .tuple ys => .list ys | _ => .none) (pvi_tup (pv_var 0)) (blkOk_by (by kernel_rfl)) (fun _ _ _ _ _ => pg_name (i := 9) sc17.nd rfl (Or.inl rfl)) gd_name (by decide) (fun x hx => ⟨_, rfl, fun s H C cl fp => ?_⟩) ?_ sc17.nd) ?_) (shaped_rows _) (shaped_rows rs)) ?_)
    · obtain ⟨r, hr1, rfl⟩ := List.mem_map.mp hx
      exact pv_listT B.list (pva_cons (pv_var 9) pva_nil)
    · rw [List.length_map]; omega
    · rw [List.map_map]; rfl
    · show noOwn _ ∧ R [] (.d (.bool (PyData.eqv (.list _) (.list _))))
      rw [eqv_rows]
      exact ⟨trivial, hR⟩
end
end K69
set_option Elab.async false
set_option linter.all false
set_option maxRecDepth 100000
set_option maxHeartbeats 4000000
namespace K69
open PySem PySem.Spec PyProof.Rows L2 DL
abbrev s19 : Stmt := topS 19
abbrev s20 : Stmt := topS 20
abbrev s21 : Stmt := topS 21
abbrev s22 : Stmt := topS 22
abbrev s23 : Stmt := topS 23
theorem sc19 : FnScope ["script", "k"] ["script", "k"] (defScope s19) := ⟨rfl, rfl, rfl, by decide +kernel, rfl, by decide +kernel, by decide +kernel⟩
theorem sc20 : FnScope ["great"] ["great"] (defScope s20) := ⟨rfl, rfl, rfl, by decide +kernel, rfl, by decide +kernel, by decide +kernel⟩
theorem sc21 : FnScope ["box", "many", "digit", "mixed"] ["box", "many"] (defScope s21) := ⟨rfl, rfl, rfl, by decide +kernel, rfl, by decide +kernel, by decide +kernel⟩
theorem sc22 : FnScope ["box", "items"] ["box", "items"] (defScope s22) := ⟨rfl, rfl, rfl, by decide +kernel, rfl, by decide +kernel, by decide +kernel⟩
theorem sc23 : FnScope ["box", "items", "left", "found", "turn"] ["box", "items"] (defScope s23) := ⟨rfl, rfl, rfl, by decide +kernel, rfl, by decide +kernel, by decide +kernel⟩
def cell19 (ns : List Int) (k : Int) : Int := if k < ns.length then ns.getD k.toNat 0 else 6389 * k + ((cutD ns none (some 1)).sum) % 1000037
def f19 : List SV → PyData → Prop := fun xs d => ∃ ns k, 0 ≤ k ∧ k < 1000 ∧ xs = [.ro ns, .d (.int k)] ∧ d = .int (cell19 ns k)
/-- a box after c turns -/
def BoxOk (c : Nat) (b : List PyData) : Prop := ∃ g q m e, b = [.int g, .bool q, .int m, .int e] ∧ 0 ≤ g ∧ 0 ≤ m ∧ m < 2147483629 ∧ 0 ≤ e ∧ e ≤ (c : Int)
theorem BoxOk.mono {c d : Nat} {b : List PyData} (h : BoxOk c b) (l : c ≤ d) : BoxOk d b := by
  obtain ⟨g, q, m, e, h0, h1, h2, h3, h4, h5⟩ := h
  exact ⟨g, q, m, e, h0, h1, h2, h3, h4, by omega⟩
abbrev bx (b : List PyData) : Cells := [some (.lst b)]
def S20 : DL.Spec := fun xs cs R => ∃ g, xs = [.d (.int g)] ∧ cs = [] ∧ ∀ b, BoxOk 0 b → R (bx b) (.own 0)
def S21 : DL.Spec := fun xs cs R => ∃ n c b, xs = [.own 0, .d (.int n)] ∧ cs = bx b ∧ BoxOk c b ∧ c ≤ 1000000 ∧ 1 ≤ n ∧ n ≤ 1000000 ∧ ∀ r b', 0 ≤ r → r < n → BoxOk (c + 1) b' → R (bx b') (.d (.int r))
section
variable {P : Program} {w : World} {K : PySem.W.Frag} {mg : Str → Option Value} {base : Heap}
theorem ok19 (B : Bl mg) (D : Def K mg "_law_cell" s19 ["script", "k"]) : FnOk P w K mg base CX0 1 D.f D.fd ["script", "k"] (spD K (PureS f19)) := by
  refine fn_def D.F sc19 (fun xs cs R ⟨_, _, d, ⟨_, _, _, _, e, _⟩, _⟩ => by rw [e]; rfl) fun cdv A outer s H E xs cs R hr ⟨hcs, _, d, ⟨ns, k, h0, h1, hx, hd⟩, hR⟩ => ?_
  subst hcs hx hd
  refine sd_ret (pv_if (p := decide (k < ns.length)) (pvt_lt (pv_var 1) (pv_lenR B.len (pva_cons (pv_var 0) pva_nil))) (fun hp => ?_) (fun hp => ?_))
  · refine PV.pd (pv_ixR (n := cell19 ns k) (pv_var 0) (pv_var 1) ?_) ?_
    · have hlt := of_decide_eq_true hp
      have hk : k = ((k.toNat : Nat) : Int) := by omega
      have hl : k.toNat < ns.length := by omega
      unfold cell19
      rw [if_pos (by omega)]
      have q : ns[k.toNat]? = some (ns.getD k.toNat 0) := by simp [List.getD_eq_getElem?_getD, hl]
      have := atI_nat q
      rw [← hk] at this
      exact this
    · exact hR
  · refine PV.pd (PV.eq (sv' := .d (.int (cell19 ns k))) (pv_add (pv_mul pv_int (pv_var 1) (.inl (by decide))) (pv_mod (pv_intI B.int (pva_cons (pv_sumL B.sum (pva_cons (pv_sliceR (ol := none) (oh := some 1) (pv_var 0) trivial pv_int) pva_nil)) pva_nil)) pv_int (by decide))) ?_) ?_
    · have hlt := of_decide_eq_false hp
      unfold cell19
      rw [if_neg hlt]
    · exact hR
theorem ok20 (B : Bl mg) (D : Def K mg "_law_box" s20 ["great"]) : FnOk P w K mg base CX0 1 D.f D.fd ["great"] (spD K S20) := by
  refine fn_def D.F sc20 (fun xs cs R ⟨_, e, _⟩ => by rw [e]; rfl) fun cdv A outer s H E xs cs R hr ⟨g, hx, hcs, hR⟩ => ?_
  subst hcs hx
  refine sd_ret (pd_lstO (pva_cons (pv_abs B.abs (pva_cons (pv_var 0) pva_nil)) (pva_cons (pv_ge (pv_abs B.abs (pva_cons (pv_var 0) pva_nil)) (pv_pow pv_int pv_int ⟨by decide, by decide, by decide⟩)) (pva_cons (pv_mod (pv_intI B.int (pva_cons (pv_abs B.abs (pva_cons (pv_var 0) pva_nil)) pva_nil)) pv_int (by decide)) (pva_cons pv_int pva_nil)))) fun cs1 xs ⟨e1, e2⟩ => ⟨[.int (if g < 0 then -g else g), .bool (decide ((10 : Int) ^ (18 : Int).toNat ≤ if g < 0 then -g else g)), .int ((if g < 0 then -g else g) % 2147483629), .int 0], e2, (by show 4 ≤ sizeLine; decide), ?_⟩)
  rw [e1]
  refine hR _ ⟨_, _, _, 0, rfl, ?_, Int.emod_nonneg _ (by decide), Int.emod_lt_of_pos _ (by decide), Int.le_refl _, by simp⟩
  split <;> omega
theorem ok21 (B : Bl mg) (D : Def K mg "_law_take" s21 ["box", "many"]) : FnOk P w K mg base CX0 1 D.f D.fd ["box", "many"] (spD K S21) := by
  refine fn_def D.F sc21 (fun xs cs R ⟨_, _, _, e, _⟩ => by rw [e]; rfl) fun cdv A outer s H E xs cs R hr ⟨n, c, b, hx, hcs, ⟨g, q, m, e, hb, g0, m0, m1, e0, e1⟩, hc, n1, n2, hR⟩ => ?_
  subst hcs hx hb
  refine sd_ifR (p := q && decide (0 < g)) (pvt_and (pvt_val (pv_ixO (pv_var 0) pv_int rfl (atI_nat (j := 1) rfl))) fun _ => pvw_and1 (pvt_gt (pv_ixO (pv_var 0) pv_int rfl (atI_nat (j := 0) rfl)) pv_int)) (fun hp => ?_) (fun hp => ?_)
  · refine sd_asg 2 (sv := .d (.int (g % n))) (pv_mod (pv_intI B.int (pva_cons (pv_ixO (pv_var 0) pv_int rfl (atI_nat (j := 0) rfl)) pva_nil)) (pv_var 1) (by omega)) ?_ sc21.nd
    refine sd_setO (m := 0) (d := .int (g / n)) (pv_fdiv (pv_ixO (pv_var 0) pv_int rfl (atI_nat (j := 0) rfl)) (pv_var 1) ⟨by omega, by omega⟩) (pv_var 0) pv_int rfl (ixN_n (j := 0) (by simp)) ?_
    refine sd_ret (PV.pd (pv_var 2) ?_)
    refine hR _ _ (Int.emod_nonneg _ (by omega)) (Int.emod_lt_of_pos _ (by omega)) ⟨g / n, q, m, e, rfl, Int.ediv_nonneg g0 (by omega), m0, m1, e0, by omega⟩
  refine sd_setO (m := 0) (d := .int (e + 1)) (pv_add (pv_ixO (pv_var 0) pv_int rfl (atI_nat (j := 3) rfl)) pv_int) (pv_var 0) pv_int rfl (ixN_n (j := 3) (by simp)) ?_
  have hmix : 0 ≤ (m + 15486209 * (e + 1) + 179425033) ^ (5 : Int).toNat % 2147483647 := Int.emod_nonneg _ (by decide)
  have hmix2 : (m + 15486209 * (e + 1) + 179425033) ^ (5 : Int).toNat % 2147483647 < 2147483647 := Int.emod_lt_of_pos _ (by decide)
  refine sd_asg 3 (sv := .d (.int ((m + 15486209 * (e + 1) + 179425033) ^ (5 : Int).toNat % 2147483647))) (pv_mod (pv_intI B.int (pva_cons (pv_pow (pv_add (pv_add (pv_ixO (pv_var 0) pv_int rfl (atI_nat (j := 2) rfl)) (pv_mul pv_int (pv_ixO (pv_var 0) pv_int rfl (atI_nat (j := 3) rfl)) (.inl (by decide)))) pv_int) pv_int ⟨by decide, by decide, by omega⟩) pva_nil)) pv_int (by decide)) ?_ sc21.nd
  generalize (m + 15486209 * (e + 1) + 179425033) ^ (5 : Int).toNat % 2147483647 = mx at hmix hmix2 ⊢
  refine sd_ret (PV.pd (pv_mod (pv_intI B.int (pva_cons (pv_fdiv (pv_mod (pv_intI B.int (pva_cons (pv_pow (pv_add (pv_mul (pv_var 3) pv_int (.inr (by decide))) (pv_mul pv_int (pv_ixO (pv_var 0) pv_int rfl (atI_nat (j := 3) rfl)) (.inl (by decide)))) pv_int ⟨by decide, by decide, by omega⟩) pva_nil)) pv_int (by decide)) pv_int ⟨by decide, by decide⟩) pva_nil)) (pv_var 1) (by omega)) ?_)
  exact hR _ _ (Int.emod_nonneg _ (by omega)) (Int.emod_lt_of_pos _ (by omega)) ⟨g, q, m, e + 1, rfl, g0, m0, m1, by omega, by omega⟩
end
end K69
set_option Elab.async false
set_option linter.all false
set_option maxRecDepth 100000
set_option maxHeartbeats 4000000
namespace K69
open PySem PySem.Spec PyProof.Rows L2 DL
def S22 : DL.Spec := fun xs cs R => ∃ ys c b, xs = [.own 0, .d (.list ys)] ∧ cs = bx b ∧ BoxOk c b ∧ c ≤ 1000000 ∧ 1 ≤ ys.length ∧ ys.length ≤ 1000 ∧ ∀ y b', y ∈ ys → BoxOk (c + 1) b' → R (bx b') (.d y)
def S23 : DL.Spec := fun xs cs R => ∃ ys c b, xs = [.own 0, .d (.list ys)] ∧ cs = bx b ∧ BoxOk c b ∧ c + ys.length ≤ 1000000 ∧ ys.length ≤ 1000 ∧ ∀ zs b', zs.Perm ys → BoxOk (c + ys.length) b' → R (bx b') (.d (.list zs))
theorem erase_perm {α : Type} {d : α} : ∀ {l : List α} {i : Nat}, l[i]? = some d → (d :: l.eraseIdx i).Perm l
  | [], _, h => by simp at h
  | a :: l, 0, h => by
    simp at h
    subst h
    exact List.Perm.refl _
  | a :: l, i + 1, h => by
    have := erase_perm (l := l) (i := i) (by simpa using h)
    rw [List.eraseIdx_cons_succ]
    exact (List.Perm.swap a d _).trans (this.cons a)
section
variable {X : Cx} {ds : Slots} {cs : Cells} {R : Cells → SV → Prop} {m c : Nat} {n : Int} {b : List PyData} {ys : List PyData} {e1 e2 : Expr} {p pos : Pos}
theorem pd_take (D21 : Def X.K X.mg "_law_take" s21 ["box", "many"]) (F21 : FnOk X.prog X.w X.K X.mg X.base CX0 1 D21.f D21.fd ["box", "many"] (spD X.K S21)) (hr : Room 1 X.A) (ha : PVA X ds cs [e1, e2] [.own m, .d (.int n)]) (hm : cs[m]? = some (some (.lst b))) (hb : BoxOk c b) (hc : c ≤ 1000000) (hn : 1 ≤ n ∧ n ≤ 1000000)
    (k : ∀ r b', 0 ≤ r → r < n → BoxOk (c + 1) b' → R (cs.set m (some (.lst b'))) (.d (.int r))) (hg : Gl X "_law_take" := by rfl) (he : starEach [e1, e2] X.env = (false, eval e1 X.env) :: starEach [e2] X.env := by rfl) (hpl : (backTo pos (starEach [e2] X.env)).any (·.1) = false := by rfl) : PD X ds cs (.Call (.Name "_law_take" p) [e1, e2] [] pos) R :=
  pd_call1 (m := m) F21 hr D21.m D21.F.kp D21.b ha (fun cs1 xs ⟨h1, h2⟩ => ⟨.lst b, [.own 0, .d (.int n)], fun cc sv => ∃ r b', 0 ≤ r ∧ r < n ∧ BoxOk (c + 1) b' ∧ cc = bx b' ∧ sv = .d (.int r), by rw [h1]; exact hm, h2, fun z hz => by
      simp at hz
      rcases hz with rfl | rfl
      · exact .inr rfl
      · exact .inl trivial, ⟨n, c, b, rfl, rfl, hb, hc, hn.1, hn.2, fun r b' r0 r1 hb' => ⟨r, b', r0, r1, hb', rfl, rfl⟩⟩, fun cc sv ⟨r, b', r0, r1, hb', h3, h4⟩ => ⟨.lst b', h3, by rw [h4]; trivial, by rw [h4, h1]; exact k r b' r0 r1 hb'⟩⟩) hg (by decide) he hpl
theorem pd_pick (D22 : Def X.K X.mg "_law_pick" s22 ["box", "items"]) (F22 : FnOk X.prog X.w X.K X.mg X.base CX0 2 D22.f D22.fd ["box", "items"] (spD X.K S22)) (hr : Room 2 X.A) (ha : PVA X ds cs [e1, e2] [.own m, .d (.list ys)]) (hm : cs[m]? = some (some (.lst b))) (hb : BoxOk c b) (hc : c ≤ 1000000) (hn : 1 ≤ ys.length ∧ ys.length ≤ 1000)
    (k : ∀ y b', y ∈ ys → BoxOk (c + 1) b' → R (cs.set m (some (.lst b'))) (.d y)) (hg : Gl X "_law_pick" := by rfl) (he : starEach [e1, e2] X.env = (false, eval e1 X.env) :: starEach [e2] X.env := by rfl) (hpl : (backTo pos (starEach [e2] X.env)).any (·.1) = false := by rfl) : PD X ds cs (.Call (.Name "_law_pick" p) [e1, e2] [] pos) R :=
  pd_call1 (m := m) F22 hr D22.m D22.F.kp D22.b ha (fun cs1 xs ⟨h1, h2⟩ => ⟨.lst b, [.own 0, .d (.list ys)], fun cc sv => ∃ y b', y ∈ ys ∧ BoxOk (c + 1) b' ∧ cc = bx b' ∧ sv = .d y, by rw [h1]; exact hm, h2, fun z hz => by
      simp at hz
      rcases hz with rfl | rfl
      · exact .inr rfl
      · exact .inl trivial, ⟨ys, c, b, rfl, rfl, hb, hc, hn.1, hn.2, fun r b' r0 hb' => ⟨r, b', r0, hb', rfl, rfl⟩⟩, fun cc sv ⟨r, b', r0, hb', h3, h4⟩ => ⟨.lst b', h3, by rw [h4]; trivial, by rw [h4, h1]; exact k r b' r0 hb'⟩⟩) hg (by decide) he hpl
theorem pd_mixed (D23 : Def X.K X.mg "_law_mixed" s23 ["box", "items"]) (F23 : FnOk X.prog X.w X.K X.mg X.base CX0 2 D23.f D23.fd ["box", "items"] (spD X.K S23)) (hr : Room 2 X.A) (ha : PVA X ds cs [e1, e2] [.own m, .d (.list ys)]) (hm : cs[m]? = some (some (.lst b))) (hb : BoxOk c b) (hc : c + ys.length ≤ 1000000) (hn : ys.length ≤ 1000)
    (k : ∀ zs b', zs.Perm ys → BoxOk (c + ys.length) b' → R (cs.set m (some (.lst b'))) (.d (.list zs))) (hg : Gl X "_law_mixed" := by rfl) (he : starEach [e1, e2] X.env = (false, eval e1 X.env) :: starEach [e2] X.env := by rfl) (hpl : (backTo pos (starEach [e2] X.env)).any (·.1) = false := by rfl) : PD X ds cs (.Call (.Name "_law_mixed" p) [e1, e2] [] pos) R :=
  pd_call1 (m := m) F23 hr D23.m D23.F.kp D23.b ha (fun cs1 xs ⟨h1, h2⟩ => ⟨.lst b, [.own 0, .d (.list ys)], fun cc sv => ∃ zs b', List.Perm zs ys ∧ BoxOk (c + ys.length) b' ∧ cc = bx b' ∧ sv = .d (.list zs), by rw [h1]; exact hm, h2, fun z hz => by
      simp at hz
      rcases hz with rfl | rfl
      · exact .inr rfl
      · exact .inl trivial, ⟨ys, c, b, rfl, rfl, hb, hc, hn, fun r b' r0 hb' => ⟨r, b', r0, hb', rfl, rfl⟩⟩, fun cc sv ⟨r, b', r0, hb', h3, h4⟩ => ⟨.lst b', h3, by rw [h4]; trivial, by rw [h4, h1]; exact k r b' r0 hb'⟩⟩) hg (by decide) he hpl
end
section
variable {P : Program} {w : World} {K : PySem.W.Frag} {mg : Str → Option Value} {base : Heap}
theorem ok22 (B : Bl mg) (D21 : Def K mg "_law_take" s21 ["box", "many"]) (F21 : FnOk P w K mg base CX0 1 D21.f D21.fd ["box", "many"] (spD K S21)) (D : Def K mg "_law_pick" s22 ["box", "items"]) : FnOk P w K mg base CX0 2 D.f D.fd ["box", "items"] (spD K S22) := by
  refine fn_def D.F sc22 (fun xs cs R ⟨_, _, _, e, _⟩ => by rw [e]; rfl) fun cdv A outer s H E xs cs R hr ⟨ys, c, b, hx, hcs, hb, hc, l1, l2, hR⟩ => ?_
  subst hcs hx
  refine sd_ret (pd_sub_ (Ra := Is _ (.d (.list ys))) (Rb := fun cs1 x cs2 y => ∃ r b', 0 ≤ r ∧ r < (ys.length : Int) ∧ BoxOk (c + 1) b' ∧ cs2 = bx b' ∧ y = .d (.int r)) (pv_var 1) (fun cs1 x ⟨h1, _⟩ => ?_) fun cs1 x cs2 y ⟨h1, h2⟩ ⟨r, b', r0, r1, hb', h3, h4⟩ _ => ?_)
  · subst h1
    exact pd_take (m := 0) (n := (ys.length : Nat)) (c := c) (b := b) D21 F21 (hr.mono (by decide)) (pva_cons (pv_var 0) (pva_cons (pv_lenL B.len (pva_cons (pv_var 1) pva_nil)) pva_nil)) rfl hb hc ⟨by omega, by omega⟩ fun r b' r0 r1 hb' => ⟨r, b', r0, r1, hb', rfl, rfl⟩
  · subst h2 h3 h4
    have hl : r.toNat < ys.length := by omega
    have hk : r = ((r.toNat : Nat) : Int) := by omega
    rw [hk]
    exact od_ix (atI_nat (v := ys[r.toNat]) (by simp [hl])) (hR _ b' (List.getElem_mem hl) hb')
theorem ok23 (B : Bl mg) (D21 : Def K mg "_law_take" s21 ["box", "many"]) (F21 : FnOk P w K mg base CX0 1 D21.f D21.fd ["box", "many"] (spD K S21)) (D : Def K mg "_law_mixed" s23 ["box", "items"]) : FnOk P w K mg base CX0 2 D.f D.fd ["box", "items"] (spD K S23) := by
  refine fn_defT D.F sc23 (fun xs cs R ⟨_, _, _, e, _⟩ => by rw [e]; rfl) fun cdv A outer s H E xs cs R hr ⟨ys, c, b, hx, hcs, hb, hc, l2, hR⟩ => ?_
  subst hcs hx
  refine sd_par 2 3 (Ra := fun cs' xs => cs' = [some (.lst b), some (.lst ys), some (.lst [])] ∧ xs = [.own 1, .own 2]) (pda_cons (Ra := fun cs' sv => cs' = [some (.lst b), some (.lst ys)] ∧ sv = .own 1) (Rs := fun cs1 sv cs2 xs => cs2 = cs1 ++ [some (.lst [])] ∧ xs = [.own cs1.length])
    (pd_listL B.list (pva_cons (pv_var 1) pva_nil) (.inr ⟨rfl, rfl⟩))
    (fun cs1 sv h => pda_cons (Rs := fun cs1 sv => Is cs1 []) (pd_lstO pva_nil fun cs3 xs ⟨e1, e2⟩ => ⟨[], e2, Nat.zero_le _, by rw [e1]; exact ⟨rfl, rfl⟩⟩ : PD _ _ cs1 _ (fun cs3 sv3 => cs3 = cs1 ++ [some (.lst [])] ∧ sv3 = .own cs1.length)) (fun cs3 sv3 _ => pda_nil ⟨rfl, rfl⟩) (fun cs3 sv3 cs4 xs ⟨k1, k2⟩ ⟨k3, k4⟩ => ⟨k3.trans k1, by rw [k2, k4]⟩)) (fun cs1 sv cs2 xs ⟨k1, k2⟩ ⟨k3, k4⟩ => ⟨by rw [k3, k1]; rfl, by rw [k2, k4, k1]; rfl⟩)) (fun cs' xs ⟨e1, e2⟩ => ⟨_, _, e2, ?_⟩) (by first | rfl | exact sw_par rfl rfl rfl) sc23.nd
  subst e1
  refine sd_for (xs := rgD 0 ys.length) (g := gName 4) (f := fName 4) (fun i ds' cs' => ∃ b' ls fs a, BoxOk (c + i) b' ∧ (fs ++ ls).Perm ys ∧ ls.length + i = ys.length ∧ fs.length = i ∧ cs' = [some (.lst b'), some (.lst ls), some (.lst fs)] ∧ ds' = [some (.own 0), some (.d (.list ys)), some (.own 1), some (.own 2), a]) (pvi_range B.range (pva_cons (pv_lenL B.len (pva_cons (pv_var 1) pva_nil)) pva_nil) ⟨by omega, by omega⟩) (pg_name (i := 4) sc23.nd rfl (by first | exact Or.inl rfl | exact Or.inr rfl)) gd_name ⟨b, ys, [], _, hb, List.Perm.refl _, rfl, rfl, rfl, rfl⟩ (fun i x ds' cs' hx ⟨b', ls, fs, a, hb', hp, hl, hf, e1, e2⟩ => ⟨_, rfl, ?_⟩) (fun ds' cs' ⟨b', ls, fs, a, hb', hp, hl, hf, e1, e2⟩ => ?_) .never
  · subst e1 e2
    have hi := (rgD_get hx).1
    refine sd_expr (R := fun cs' sv => ∃ b2 j d, BoxOk (c + i + 1) b2 ∧ ls[j]? = some d ∧ cs' = [some (.lst b2), some (.lst (ls.eraseIdx j)), some (.lst (fs ++ [d]))]) (pd_append (m := 2) (Ra := fun cs' xs => ∃ b2 j d, BoxOk (c + i + 1) b2 ∧ ls[j]? = some d ∧ cs' = [some (.lst b2), some (.lst (ls.eraseIdx j)), some (.lst fs)] ∧ xs = [.d d]) (pv_var 3)
      (pda_cons (Ra := fun cs' sv => ∃ b2 j d, BoxOk (c + i + 1) b2 ∧ ls[j]? = some d ∧ cs' = [some (.lst b2), some (.lst (ls.eraseIdx j)), some (.lst fs)] ∧ sv = .d d) (Rs := fun cs1 sv => Is cs1 [])
        (pd_popAt (m := 1) (Ra := fun cs' xs => ∃ r b2, 0 ≤ r ∧ r < (ls.length : Int) ∧ BoxOk (c + i + 1) b2 ∧ cs' = [some (.lst b2), some (.lst ls), some (.lst fs)] ∧ xs = [.d (.int r)]) (pv_var 2)
          (pda_cons (Ra := fun cs' sv => ∃ r b2, 0 ≤ r ∧ r < (ls.length : Int) ∧ BoxOk (c + i + 1) b2 ∧ cs' = [some (.lst b2), some (.lst ls), some (.lst fs)] ∧ sv = .d (.int r)) (Rs := fun cs1 sv => Is cs1 [])
            (pd_take (m := 0) (n := (ls.length : Nat)) (c := c + i) (b := b') D21 F21 (hr.mono (by decide)) (pva_cons (pv_var 0) (pva_cons (pv_lenO B.len (pva_cons (pv_var 2) pva_nil) rfl) pva_nil)) rfl hb' (by omega) ⟨by omega, by omega⟩ fun r b2 r0 r1 hb2 => ⟨r, b2, r0, r1, hb2, rfl, rfl⟩)
            (fun cs1 sv _ => pda_nil ⟨rfl, rfl⟩) (fun cs1 sv cs2 xs ⟨r, b2, r0, r1, hb2, h1, h2⟩ ⟨h3, h4⟩ => ⟨r, b2, r0, r1, hb2, h3.trans h1, by rw [h2, h4]⟩))
          (fun cs1 zs ⟨r, b2, r0, r1, hb2, h1, h2⟩ => ⟨r.toNat, ls, ls[r.toNat]'(by omega), by rw [h2]; congr 3; omega, by rw [h1]; rfl, by simp [show r.toNat < ls.length by omega], by omega, ⟨b2, r.toNat, _, hb2, by simp [show r.toNat < ls.length by omega], by rw [h1]; rfl, rfl⟩⟩) ⟨_, rfl⟩)
        (fun cs1 sv _ => pda_nil ⟨rfl, rfl⟩) (fun cs1 sv cs2 xs ⟨b2, j, d, hb2, hj, h1, h2⟩ ⟨h3, h4⟩ => ⟨b2, j, d, hb2, hj, h3.trans h1, by rw [h2, h4]⟩))
      (fun cs1 zs ⟨b2, j, d, hb2, hj, h1, h2⟩ => ⟨d, fs, h2, by rw [h1]; rfl, by omega, ⟨b2, j, d, hb2, hj, by rw [h1]; rfl⟩⟩) ⟨_, rfl⟩) fun cs' sv ⟨b2, j, d, hb2, hj, e1⟩ => ?_
    subst e1
    have hjl := (List.getElem?_eq_some_iff.mp hj).1
    refine sd_nil ⟨b2, ls.eraseIdx j, fs ++ [d], _, hb2, ?_, by rw [List.length_eraseIdx_of_lt hjl]; omega, by rw [List.length_append, hf]; rfl, rfl, rfl⟩
    refine List.Perm.trans ?_ hp
    rw [List.append_assoc]
    refine List.Perm.append_left fs ?_
    exact erase_perm hj
  · subst e1 e2
    rw [rgD_length] at hl hb' hf
    have hls : ls = [] := List.eq_nil_of_length_eq_zero (by omega)
    subst hls
    rw [List.append_nil] at hp
    refine sd_freeze (ds' := [some (.own 0), some (.d (.list ys)), some (.own 1), some (.d (.list fs)), a]) 2 (.lst fs) rfl ⟨rfl, fun i sv q => ?_⟩ ?_
    · match i with
      | 0 => exact .inl q
      | 1 => exact .inl q
      | 2 => exact .inl q
      | 3 => simp at q; exact .inr ⟨rfl, q.symm⟩
      | i + 4 => exact .inl q
    refine sd_ret (PV.pd (pv_var 3) ?_)
    exact ⟨trivial, hR fs b' hp hb'⟩
end
end K69
set_option Elab.async false
set_option linter.all false
set_option maxRecDepth 100000
/-! M3: even squares, permutations as lists of ints (plain law). -/
namespace K69
open PySem DL
theorem ddp_len (l : List Int) : (ddp l).length ≤ l.length := by
  induction l with
  | nil => exact Nat.le_refl _
  | cons x l ih =>
    unfold ddp
    split
    · rw [List.length_cons]; omega
    · rw [List.length_cons, List.length_cons]; omega
theorem nd_of_ddp : ∀ {l : List Int}, (ddp l).length = l.length → l.Nodup
  | [], _ => List.nodup_nil
  | x :: l, h => by
    have h1 := ddp_len l
    unfold ddp at h
    split at h
    · rw [List.length_cons] at h; omega
    · rename_i hx
      rw [List.length_cons, List.length_cons] at h
      exact List.nodup_cons.mpr ⟨fun hm => hx ((ddp_mem x l).mpr hm), nd_of_ddp (by omega)⟩
theorem ddp_of_nd : ∀ {l : List Int}, l.Nodup → ddp l = l
  | [], _ => rfl
  | x :: l, h => by
    obtain ⟨h1, h2⟩ := List.nodup_cons.mp h
    unfold ddp
    rw [if_neg (fun hm => h1 ((ddp_mem x l).mp hm)), ddp_of_nd h2]
/-- 0 .. n - 1 -/
def rangeI (n : Nat) : List Int := (List.range n).map fun (k : Nat) => (k : Int)
theorem inN_nd {n : Nat} {ns : List Int} (h : InN n ns) (hd : (ddp ns).length = n) : ns.Nodup := nd_of_ddp (by rw [hd, h.len])
theorem perm_rangeI {n : Nat} {ns : List Int} (h : InN n ns) (hn : ns.Nodup) : ns.Perm (rangeI n) := by
  have e : ns = (ns.map Int.toNat).map fun (k : Nat) => (k : Int) := by
    rw [List.map_map]
    conv => lhs; rw [← List.map_id ns]
    apply List.map_congr_left
    intro x hx
    have := h.lo x hx
    show x = ((x.toNat : Nat) : Int)
    omega
  have nd : (ns.map Int.toNat).Nodup := by
    refine List.pairwise_map.mpr (List.Pairwise.imp_of_mem (R := (· ≠ ·)) (fun {a b} ha hb hne q => ?_) hn)
    have := h.lo a ha
    have := h.lo b hb
    exact hne (by omega)
  have p := perm_of_nd (n := n) nd (by rw [List.length_map, h.len]) fun x hx => by
    obtain ⟨y, hy, rfl⟩ := List.mem_map.mp hx
    have := h.lo y hy
    omega
  rw [e]
  exact p.map _
theorem rangeI_in (n : Nat) : InN n (rangeI n) ∧ (rangeI n).Nodup := by
  refine ⟨⟨by simp [rangeI], fun x hx => ?_⟩, ?_⟩
  · obtain ⟨k, hk, rfl⟩ := List.mem_map.mp hx
    have := List.mem_range.mp hk
    omega
  · refine List.pairwise_map.mpr ?_
    refine List.Pairwise.imp ?_ (List.nodup_range (n := n))
    intro a b h e
    exact h (Int.ofNat.inj e)
theorem of_perm {n : Nat} {ns : List Int} (h : ns.Perm (rangeI n)) : InN n ns ∧ ns.Nodup := by
  obtain ⟨h1, h2⟩ := rangeI_in n
  exact ⟨⟨h.length_eq.trans h1.len, fun x hx => h1.lo x (h.mem_iff.mp hx)⟩, h.nodup_iff.mpr h2⟩
theorem plB_ints {n : Nat} {ns : List Int} : (decide ((ns.map PyData.int).length = n) && plB n (ns.map .int)) = true ↔ ns.Perm (rangeI n) := by
  unfold plB
  rw [intsOf_map]
  simp only [Bool.and_eq_true, decide_eq_true_eq, List.length_map, List.all_map]
  constructor
  · rintro ⟨h1, h2, h3⟩
    have hin : InN n ns := ⟨h1, fun x hx => by
      have := List.all_eq_true.mp h2 x hx
      simp [within] at this
      omega⟩
    exact perm_rangeI hin (inN_nd hin h3)
  · intro h
    obtain ⟨h1, h2⟩ := of_perm h
    refine ⟨h1.len, List.all_eq_true.mpr fun x hx => ?_, by rw [ddp_of_nd h2, h1.len]⟩
    have := h1.lo x hx
    simp [within]
    omega
/-- the sorted list -/
def srt (ns : List Int) : List Int := ns.mergeSort (fun a b => decide (a ≤ b))
theorem srt_perm (ns : List Int) : (srt ns).Perm ns := List.mergeSort_perm ns _
theorem srt_sorted (ns : List Int) : (srt ns).Pairwise (· ≤ ·) := by
  have := List.pairwise_mergeSort (le := fun a b : Int => decide (a ≤ b)) (fun a b c h1 h2 => by simp at h1 h2 ⊢; omega) (fun a b => by simp; omega) ns
  exact this.imp fun h => by simpa using h
theorem rangeI_sorted (n : Nat) : (rangeI n).Pairwise (· ≤ ·) := by
  refine List.pairwise_map.mpr (List.Pairwise.imp (R := (· < ·)) (fun {a b} h => by omega) ?_)
  exact List.pairwise_lt_range
theorem srt_range {n : Nat} {ns : List Int} : srt ns = rangeI n ↔ ns.Perm (rangeI n) :=
  ⟨fun h => h ▸ (srt_perm ns).symm, fun h => sort_same ((srt_perm ns).trans h) (srt_sorted ns) (rangeI_sorted n)⟩

/-! ### even -/
theorem ddp_one {l : List Int} (hl : l ≠ []) : (ddp l).length = 1 ↔ ∃ c, ∀ x ∈ l, x = c := by
  constructor
  · intro h
    match hd : ddp l, h with
    | [c], _ => exact ⟨c, fun x hx => by have := (ddp_mem x l).mpr hx; rw [hd] at this; simpa using this⟩
  · rintro ⟨c, hc⟩
    obtain ⟨x, hx⟩ := List.exists_mem_of_ne_nil l hl
    have h1 : ∀ y ∈ ddp l, y = c := fun y hy => hc y ((ddp_mem y l).mp hy)
    have h2 : x ∈ ddp l := (ddp_mem x l).mpr hx
    have h3 := ddp_nodup l
    match hd : ddp l with
    | [] => rw [hd] at h2; cases h2
    | [_] => rfl
    | a :: b :: r =>
      rw [hd] at h1 h3
      have e1 := h1 a (by simp)
      have e2 := h1 b (by simp)
      have := (List.nodup_cons.mp h3).1
      rw [e1, e2] at this
      simp at this
theorem sum_row {r : List Int} {n : Nat} (h : r.length = n) : r.sum = S (List.range n) fun j => r.getD j 0 := by
  unfold S
  congr 1
  apply List.ext_getElem
  · simp [h]
  · intro i h1 h2
    simp [List.getD_eq_getElem?_getD, h1]
section
variable {rs : List (List Int)}
theorem SqOk.row {rs : List (List Int)} (ok : SqOk rs) {k : Nat} (hk : k < rs.length) : S (List.range rs.length) (at2 rs k) = (rs[k]'hk).sum := by
  rw [sum_row (ok.len rs[k] (List.getElem_mem hk))]
  apply S_congr
  intro j _
  unfold at2
  rw [List.getD_eq_getElem?_getD (l := rs), List.getElem?_eq_getElem hk]
  rfl
theorem col_get {rs : List (List Int)} {j : Nat} : (rs.map fun r => r.getD j 0).sum = S (List.range rs.length) fun k => at2 rs k j := by
  unfold S
  congr 1
  apply List.ext_getElem
  · simp
  · intro i h1 h2
    have hi : i < rs.length := by simpa using h1
    simp [at2, List.getD_eq_getElem?_getD, hi]
theorem SqOk.even {rs : List (List Int)} (ok : SqOk rs) : evenB rs = true ↔ ∃ c, Sto rs.length (at2 rs) c := by
  have hne : sumsL rs ≠ [] := fun e => by
    have : (sumsL rs).length = 0 := by rw [e]; rfl
    simp [sumsL] at this
    have h2 := ok.pos
    rw [this.1] at h2
    simp at h2
  unfold evenB
  rw [decide_eq_true_eq, ddp_one hne]
  have nn : ∀ k j, k < rs.length → j < rs.length → 0 ≤ at2 rs k j := fun k j hk hj => by
    have h1 : rs[k]? = some rs[k] := by simp [hk]
    have h3 : j < rs[k].length := by rw [ok.len _ (List.getElem_mem hk)]; exact hj
    have h2 : rs[k][j]? = some rs[k][j] := by simp [h3]
    rw [at2_eq h1 h2]
    exact ok.nn _ (List.getElem_mem hk) _ (List.getElem_mem h3)
  constructor
  · rintro ⟨c, hc⟩
    refine ⟨c, nn, fun k hk => ?_, fun j hj => ?_⟩
    · rw [ok.row hk]
      exact hc _ (List.mem_append.mpr (.inl (List.mem_map.mpr ⟨_, List.getElem_mem hk, rfl⟩)))
    · rw [← col_get]
      refine hc _ (List.mem_append.mpr (.inr (List.mem_map.mpr ⟨_, ?_, rfl⟩)))
      exact List.mem_map.mpr ⟨j, List.mem_range.mpr hj, rfl⟩
  · rintro ⟨c, h⟩
    refine ⟨c, fun x hx => ?_⟩
    rcases List.mem_append.mp hx with hx | hx
    · obtain ⟨r, hr, rfl⟩ := List.mem_map.mp hx
      obtain ⟨k, hk, rfl⟩ := List.mem_iff_getElem.mp hr
      rw [← ok.row hk]
      exact h.row k hk
    · obtain ⟨q, hq, rfl⟩ := List.mem_map.mp hx
      obtain ⟨j, hj, rfl⟩ := List.mem_map.mp hq
      rw [col_get]
      exact h.col j (List.mem_range.mp hj)
theorem SqOk.good {rs : List (List Int)} (ok : SqOk rs) {c : Int} (h : Sto rs.length (at2 rs) c) : Good rs.length rs c := ⟨rfl, ok.len, h⟩
end
/-- the law's own test of evenness -/
theorem even_filter (ok : SqOk rs) : ((sumsL rs).filter fun x => !decide (x = (rs.map List.sum).getD 0 0)) = [] ↔ evenB rs = true := by
  have hp := ok.pos
  have hm : (rs.map List.sum).getD 0 0 ∈ sumsL rs := by
    refine List.mem_append.mpr (.inl ?_)
    rw [List.getD_eq_getElem?_getD, List.getElem?_eq_getElem (by rw [List.length_map]; exact hp)]
    exact List.getElem_mem _
  have hne : sumsL rs ≠ [] := List.ne_nil_of_mem hm
  unfold evenB
  rw [decide_eq_true_eq, ddp_one hne, List.filter_eq_nil_iff]
  constructor
  · intro h
    exact ⟨_, fun x hx => by simpa using h x hx⟩
  · rintro ⟨c, hc⟩ x hx
    rw [hc x hx, hc _ hm]
    simp
/-- what is added up is even -/
theorem addR_sto {n : Nat} {ps : List (Int × List Int)} (h : ∀ p ∈ ps, 0 ≤ p.1 ∧ p.2.Perm (rangeI n)) : Sto n (at2 (addR n ps)) (S ps (·.1)) := by
  have key : ∀ p ∈ ps, IsP n (fn (p.2.map Int.toNat)) ∧ ∀ k, k < n → p.2.getD k (-1) = ((fn (p.2.map Int.toNat) k : Nat) : Int) := fun p hp => by
    obtain ⟨h1, h2⟩ := of_perm (h p hp).2
    have hg : ∀ k, k < n → p.2.getD k (-1) = ((fn (p.2.map Int.toNat) k : Nat) : Int) := fun k hk => by
      rw [List.getD_eq_getElem?_getD, (fn_toNat h1 hk).1]; rfl
    refine ⟨⟨fun k hk => (fn_toNat h1 hk).2, fun k l hk hl e => ?_⟩, hg⟩
    have a := (fn_toNat h1 hk).1
    have b := (fn_toNat h1 hl).1
    rw [e, ← b] at a
    exact (List.getElem?_inj (by rw [h1.len]; exact hk) h2).mp a
  have term : ∀ p ∈ ps, ∀ (k j : Nat), k < n → (if p.2.getD k (-1) = (j : Int) then p.1 else 0) = p.1 * pm (p.2.map Int.toNat) k j := fun p hp k j hk => by
    rw [(key p hp).2 k hk]
    unfold pm
    by_cases q : j = fn (p.2.map Int.toNat) k
    · rw [if_pos q, if_pos (by rw [q])]; simp
    · rw [if_neg q, if_neg (fun z => q (by omega))]; simp
  refine ⟨fun k j hk hj => ?_, fun k hk => ?_, fun j hj => ?_⟩
  · rw [at2_addR hk hj]
    refine S_nonneg fun p hp => ?_
    split
    · exact (h p hp).1
    · exact Int.le_refl _
  · rw [S_congr fun j hj => at2_addR hk (List.mem_range.mp hj), S_swap]
    refine S_congr fun p hp => ?_
    rw [S_congr fun j _ => term p hp k j hk, S_mul, pm_row (key p hp).1 hk]; simp
  · rw [S_congr fun k hk => at2_addR (List.mem_range.mp hk) hj, S_swap]
    refine S_congr fun p hp => ?_
    rw [S_congr fun k hk => term p hp k j (List.mem_range.mp hk), S_mul, pm_col (key p hp).1 hj]; simp
end K69
set_option Elab.async false
set_option linter.all false
set_option maxRecDepth 100000
/-! M4: what permutation_sum finds is a sum of few permutations (plain law). -/
namespace K69
open PySem DL
theorem S_snoc (m : Nat) (g : Nat → Int) : S (List.range (m + 1)) g = S (List.range m) g + g m := by
  unfold S
  rw [List.range_succ, List.map_append, List.sum_append]
  simp
/-- a functional of the first N coordinates -/
def Lin (N : Nat) (F : (Nat → Int) → Int) : Prop := ∃ c, ∀ v, F v = dot (List.range N) c v
theorem lin_coord {N i : Nat} (h : i < N) : Lin N (fun v => v i) := ⟨fun t => if t = i then 1 else 0, fun v => by
  show v i = dot _ _ v
  unfold dot
  rw [← S_one (w := v i) h]
  refine S_congr fun t _ => ?_
  by_cases q : t = i
  · subst q; simp
  · simp [q]⟩
theorem lin_zero {N : Nat} : Lin N (fun _ => 0) := ⟨fun _ => 0, fun v => by
  unfold dot
  rw [S_congr (h := fun _ => 0) fun t _ => by simp, S_zero]⟩
theorem lin_add {N : Nat} {F G : (Nat → Int) → Int} (hf : Lin N F) (hg : Lin N G) : Lin N (fun v => F v + G v) := by
  obtain ⟨c, hc⟩ := hf
  obtain ⟨d, hd⟩ := hg
  refine ⟨fun t => c t + d t, fun v => ?_⟩
  show F v + G v = _
  rw [hc, hd]
  unfold dot
  rw [← S_add]
  exact S_congr fun t _ => by rw [Int.add_mul]
theorem lin_sub {N : Nat} {F G : (Nat → Int) → Int} (hf : Lin N F) (hg : Lin N G) : Lin N (fun v => F v - G v) := by
  obtain ⟨c, hc⟩ := hf
  obtain ⟨d, hd⟩ := hg
  refine ⟨fun t => c t - d t, fun v => ?_⟩
  show F v - G v = _
  rw [hc, hd]
  unfold dot
  rw [← S_sub]
  exact S_congr fun t _ => by rw [Int.sub_mul]
theorem lin_sum {N : Nat} {F : Nat → (Nat → Int) → Int} : ∀ {m : Nat}, (∀ i, i < m → Lin N (F i)) → Lin N (fun v => S (List.range m) fun i => F i v)
  | 0, _ => lin_zero
  | m + 1, h => by
    have h1 := lin_add (lin_sum (m := m) fun i hi => h i (Nat.lt_succ_of_lt hi)) (h m (Nat.lt_succ_self m))
    obtain ⟨c, hc⟩ := h1
    exact ⟨c, fun v => by
      rw [← hc]
      exact S_snoc m fun i => F i v⟩
/-- a permutation's coordinates: one, and the entries but the last row and column -/
def vec (p : Nat) (o : List Nat) (i : Nat) : Int := if i = 0 then 1 else pm o ((i - 1) / p) ((i - 1) % p)
theorem vec_code {p : Nat} {o : List Nat} {k j : Nat} (hj : j < p) : vec p o (p * k + j + 1) = pm o k j := by
  unfold vec
  rw [if_neg (by omega), Nat.add_sub_cancel, Nat.mul_add_div (by omega), Nat.mul_add_mod, Nat.div_eq_of_lt hj, Nat.mod_eq_of_lt hj, Nat.add_zero]
theorem code_lt {p k j : Nat} (hk : k < p) (hj : j < p) : p * k + j + 1 < p * p + 1 := by
  have : p * (k + 1) ≤ p * p := Nat.mul_le_mul_left p hk
  rw [Nat.mul_add] at this
  omega
/-- every entry is a functional of the coordinates -/
theorem entry_lin {p k j : Nat} (hk : k < p + 1) (hj : j < p + 1) : ∃ φ, ∀ o, IsP (p + 1) (fn o) → dot (List.range (p * p + 1)) φ (vec p o) = pm o k j := by
  have one : Lin (p * p + 1) (fun v => v 0) := lin_coord (Nat.succ_pos _)
  have at_ : ∀ k j, k < p → j < p → Lin (p * p + 1) (fun v => v (p * k + j + 1)) := fun k j hk hj => lin_coord (code_lt hk hj)
  have v0 : ∀ o, vec p o 0 = 1 := fun o => if_pos rfl
  by_cases k1 : k < p
  · by_cases j1 : j < p
    · obtain ⟨c, hc⟩ := at_ k j k1 j1
      exact ⟨c, fun o _ => by rw [← hc]; exact vec_code j1⟩
    · have ej : j = p := by omega
      obtain ⟨c, hc⟩ := lin_sub one (lin_sum (F := fun j v => v (p * k + j + 1)) fun j hj => at_ k j k1 hj)
      refine ⟨c, fun o ho => ?_⟩
      rw [← hc]
      show vec p o 0 - S (List.range p) (fun j => vec p o (p * k + j + 1)) = pm o k j
      rw [v0, S_congr fun j hj => vec_code (List.mem_range.mp hj), ej]
      have := pm_row ho hk
      rw [S_snoc] at this
      have e : S (List.range p) (fun j => pm o k j) = S (List.range p) (pm o k) := rfl
      omega
  · have ek : k = p := by omega
    by_cases j1 : j < p
    · obtain ⟨c, hc⟩ := lin_sub one (lin_sum (F := fun k v => v (p * k + j + 1)) fun k hk => at_ k j hk j1)
      refine ⟨c, fun o ho => ?_⟩
      rw [← hc]
      show vec p o 0 - S (List.range p) (fun k => vec p o (p * k + j + 1)) = pm o k j
      rw [v0, S_congr fun k hk => vec_code j1, ek]
      have := pm_col ho hj
      rw [S_snoc] at this
      omega
    · have ej : j = p := by omega
      obtain ⟨c, hc⟩ := lin_sub one (lin_sum (F := fun j v => v 0 - S (List.range p) fun k => v (p * k + j + 1)) fun j hj => lin_sub one (lin_sum (F := fun k v => v (p * k + j + 1)) fun k hk => at_ k j hk hj))
      refine ⟨c, fun o ho => ?_⟩
      rw [← hc]
      show vec p o 0 - S (List.range p) (fun j => vec p o 0 - S (List.range p) fun k => vec p o (p * k + j + 1)) = pm o k j
      rw [v0]
      have e1 : S (List.range p) (fun j => 1 - S (List.range p) fun k => vec p o (p * k + j + 1)) = S (List.range p) (pm o p) := S_congr fun j hj => by
        have hj' := List.mem_range.mp hj
        rw [S_congr fun k hk => vec_code hj']
        have := pm_col ho (j := j) (by omega)
        rw [S_snoc] at this
        omega
      rw [e1, ek, ej]
      have := pm_row ho (k := p) (by omega)
      rw [S_snoc] at this
      omega
theorem at2_next {n : Nat} {left : List (List Int)} {c : Int} (g : Good n left c) (h : anyPos left = true) {k j : Nat} (hk : k < n) (hj : j < n) : at2 (nextL left) k j = at2 left k j - wOf left * pm (ordOf left) k j := by
  obtain ⟨o, _⟩ := g.ord h
  rw [nextL, at2_decTo g o.isP.lt hk hj]
  congr 1
  unfold pm
  have : k < left.length := by rw [g.len]; exact hk
  by_cases q : j = fn (ordOf left) k
  · rw [if_pos ⟨this, q⟩, if_pos q]; simp
  · rw [if_neg (fun z => q z.2), if_neg q]; simp
theorem runs_ex {p : Nat} : ∀ (m : Nat) (left : List (List Int)) (c : Int), Good (p + 1) left c → c.toNat ≤ m → ∀ found, ∃ more : List (Int × List Nat), Runs left found (found ++ more) ∧ (∀ q ∈ more, 1 ≤ q.1 ∧ IsOrd (p + 1) left q.2) ∧
    (∀ k j, k < p + 1 → j < p + 1 → at2 left k j = S more fun q => q.1 * pm q.2 k j) ∧ ∃ L : List ((Nat → Int) × (Nat → Int)), L.map (·.1) = more.map (fun q => vec p q.2) ∧ Tri (List.range (p * p + 1)) L
  | m, left, c, g, hm, found => by
    by_cases h : anyPos left = true
    · have hc := g.cpos h
      obtain ⟨o, _⟩ := g.ord h
      obtain ⟨w1, w2, k0, hk0, w3⟩ := g.w h
      have gn := g.next h
      match m, hm with
      | 0, hm => omega
      | m + 1, hm =>
        obtain ⟨more, r1, r2, r3, L, r4, r5⟩ := runs_ex m (nextL left) (c - wOf left) gn (by omega) (found ++ [(wOf left, ordOf left)])
        have j0 : fn (ordOf left) k0 < p + 1 := o.isP.lt k0 hk0
        have z0 : at2 (nextL left) k0 (fn (ordOf left) k0) = 0 := by
          rw [at2_next g h hk0 j0, w3]
          unfold pm
          rw [if_pos rfl]; omega
        obtain ⟨φ, hφ⟩ := entry_lin hk0 j0
        have back : ∀ q ∈ more, IsOrd (p + 1) left q.2 := fun q hq => by
          obtain ⟨_, i⟩ := r2 q hq
          refine ⟨i.len, i.lt, i.nd, fun k j e => ?_⟩
          have hk : k < p + 1 := by have := (List.getElem?_eq_some_iff.mp e).1; rw [i.len] at this; exact this
          have h1 := i.pos k j e
          rw [at2_next g h hk (i.lt k j e)] at h1
          unfold pm at h1
          split at h1 <;> omega
        refine ⟨(wOf left, ordOf left) :: more, .step h (by simpa using r1), fun q hq => ?_, fun k j hk hj => ?_, (vec p (ordOf left), φ) :: L, by simp [r4], .cons ?_ (fun q hq => ?_) r5⟩
        · rcases List.mem_cons.mp hq with rfl | hq
          · exact ⟨w1, o⟩
          · exact ⟨(r2 q hq).1, back q hq⟩
        · have h1 := r3 k j hk hj
          rw [at2_next g h hk hj] at h1
          show at2 left k j = wOf left * pm (ordOf left) k j + S more fun q => q.1 * pm q.2 k j
          omega
        · rw [hφ _ o.isP]
          unfold pm
          rw [if_pos rfl]; decide
        · have : q.1 ∈ L.map (·.1) := List.mem_map.mpr ⟨q, hq, rfl⟩
          rw [r4] at this
          obtain ⟨q', hq', e⟩ := List.mem_map.mp this
          obtain ⟨_, i⟩ := r2 q' hq'
          rw [← e, hφ _ i.isP]
          unfold pm
          refine if_neg fun z => ?_
          have h1 := i.pos k0 _ (i.get hk0)
          rw [← z, z0] at h1
          omega
    · have h' : anyPos left = false := by simpa using h
      refine ⟨[], by rw [List.append_nil]; exact .done h', fun q hq => (by cases hq), fun k j hk hj => ?_, [], rfl, .nil⟩
      have h1 := g.sto.nn k j hk hj
      have h2 : ¬ 0 < at2 left k j := fun z => h (g.any.mpr ⟨k, j, hk, hj, z⟩)
      show at2 left k j = 0
      omega
theorem pairOf_pairD (q : Int × List Nat) : pairOf (pairD q) = (q.1, q.2.map fun (k : Nat) => (k : Int)) := by
  show (q.1, intsOf (q.2.map fun k => PyData.int (k : Nat))) = _
  unfold intsOf
  rw [List.map_map]; rfl
/-- permutation_sum keeps its promise -/
theorem told_ok {rs : List (List Int)} (ok : SqOk rs) (he : evenB rs = true) : ∃ c res, Good rs.length rs c ∧ Runs rs [] res ∧ res.length ≤ 1000 ∧ (∀ q ∈ res, 1 ≤ q.1 ∧ (q.2.map fun (k : Nat) => (k : Int)).Perm (rangeI rs.length)) ∧ isB rs (.list (res.map pairD)) = true := by
  obtain ⟨c, hs⟩ := ok.even.mp he
  have g := ok.good hs
  obtain ⟨p, hp⟩ : ∃ p, rs.length = p + 1 := ⟨rs.length - 1, by have := ok.pos; omega⟩
  rw [hp] at g
  obtain ⟨res, r1, r2, r3, L, r4, r5⟩ := runs_ex c.toNat rs c g (Nat.le_refl _) []
  rw [List.nil_append] at r1
  have hlen : res.length ≤ p * p + 1 := by
    have h1 := tri_len rfl r5
    have h2 := congrArg List.length r4
    rw [List.length_map, List.length_map] at h2
    rw [List.length_range] at h1
    omega
  have h6 : p * p ≤ 5 * 5 := Nat.mul_le_mul (by have := ok.six; omega) (by have := ok.six; omega)
  have perm : ∀ q ∈ res, (q.2.map fun (k : Nat) => (k : Int)).Perm (rangeI rs.length) := fun q hq => by
    obtain ⟨_, i⟩ := r2 q hq
    rw [hp]
    exact (perm_of_nd i.nd i.len fun x hx => by
      obtain ⟨k, hk⟩ := List.mem_iff_getElem?.mp hx
      exact i.lt k x hk).map _
  refine ⟨c, res, hp ▸ g, r1, by omega, fun q hq => ⟨(r2 q hq).1, perm q hq⟩, ?_⟩
  show seqB rs (res.map pairD) = true
  unfold seqB
  rw [Bool.and_eq_true, Bool.and_eq_true]
  refine ⟨decide_eq_true ?_, List.all_eq_true.mpr fun x hx => ?_, decide_eq_true ?_⟩
  · rw [List.length_map, hp]; simpa using hlen
  · obtain ⟨q, hq, rfl⟩ := List.mem_map.mp hx
    have e : pairD q = .tuple [.int q.1, .tuple ((q.2.map fun (k : Nat) => (k : Int)).map .int)] := by
      unfold pairD tupN
      rw [List.map_map]; rfl
    rw [e]
    unfold wtB
    simp only
    rw [plB_ints.mpr (perm q hq), decide_eq_true (r2 q hq).1]
    rfl
  · refine mat_ext (rect_addR _ _) ⟨rfl, ok.len⟩ fun k j hk hj => ?_
    rw [at2_addR hk hj, r3 k j (hp ▸ hk) (hp ▸ hj)]
    unfold pairsOf S
    rw [List.map_map, List.map_map]
    congr 1
    apply List.map_congr_left
    intro q hq
    obtain ⟨_, i⟩ := r2 q hq
    show (if (pairOf (pairD q)).2.getD k (-1) = (j : Int) then (pairOf (pairD q)).1 else 0) = q.1 * pm q.2 k j
    rw [pairOf_pairD]
    have e : (q.2.map fun (k : Nat) => (k : Int)).getD k (-1) = ((fn q.2 k : Nat) : Int) := by
      rw [List.getD_eq_getElem?_getD, List.getElem?_map, i.get (hp ▸ hk)]; rfl
    show (if (q.2.map fun (k : Nat) => (k : Int)).getD k (-1) = (j : Int) then q.1 else 0) = q.1 * pm q.2 k j
    rw [e]
    unfold pm
    by_cases z : j = fn q.2 k
    · rw [if_pos z, if_pos (by rw [z])]; simp
    · rw [if_neg z, if_neg (fun y => z (by omega))]; simp
end K69
set_option Elab.async false
set_option linter.all false
set_option maxRecDepth 100000
set_option maxHeartbeats 4000000
namespace K69
open PySem PySem.Spec PyProof.Rows L2 DL
abbrev s24 : Stmt := topS 24
abbrev s25 : Stmt := topS 25
abbrev s26 : Stmt := topS 26
theorem sc24 : FnScope ["given", "due", "key", "k"] ["given", "due"] (defScope s24) := ⟨rfl, rfl, rfl, by decide +kernel, rfl, by decide +kernel, by decide +kernel⟩
theorem sc25 : FnScope ["value"] ["value"] (defScope s25) := ⟨rfl, rfl, rfl, by decide +kernel, rfl, by decide +kernel, by decide +kernel⟩
theorem sc26 : FnScope ["many", "pairs", "found", "k", "weight", "places", "line"] ["many", "pairs"] (defScope s26) := ⟨rfl, rfl, rfl, by decide +kernel, rfl, by decide +kernel, by decide +kernel⟩
def f24 : List SV → PyData → Prop := fun xs d => ∃ p q, xs = [.d (.bool p), .d (.bool q)] ∧ d = .bool (decide (p = q))
def f25 : List SV → PyData → Prop := fun xs d => ∃ x, xs = [.d x] ∧ d = .bool (isInt x)
/-- a pair whose places lie within -/
def PairIn (n : Nat) (x : PyData) : Prop := ∃ w ns, x = .tuple [.int w, .tuple (ns.map .int)] ∧ InN n ns
def SeqOf (v : PyData) (xs : List PyData) : Prop := v = .list xs ∨ v = .tuple xs
def f26 : List SV → PyData → Prop := fun xs d => ∃ (n : Nat) (v : PyData) (ps : List PyData), n ≤ 6 ∧ SeqOf v ps ∧ (∀ x ∈ ps, PairIn n x) ∧ xs = [.d (.int n), .d v] ∧ d = sqD (addR n (pairsOf ps))
theorem pairOf_in (w : Int) (ns : List Int) : pairOf (.tuple [.int w, .tuple (ns.map .int)]) = (w, ns) := by
  show (w, intsOf _) = _
  rw [intsOf_map]
section
variable {P : Program} {w : World} {K : PySem.W.Frag} {mg : Str → Option Value} {base : Heap}
theorem ok24 (B : Bl mg) (D : Def K mg "_law_same" s24 ["given", "due"]) : FnOk P w K mg base CX0 1 D.f D.fd ["given", "due"] (spD K (PureS f24)) := by
  refine fn_def D.F sc24 (fun xs cs R ⟨_, _, d, ⟨_, _, e, _⟩, _⟩ => by rw [e]; rfl) fun cdv A outer s H E xs cs R hr ⟨hcs, _, d, ⟨p, q, hx, hd⟩, hR⟩ => ?_
  subst hcs hx hd
  refine sd_ifR (p := true) (PVT.eq (pvt_or (pvt_isN (pv_var 1)) fun _ => pvw_or1 (pvt_val (pv_isi "bool" (.inr (.inl rfl)) B.isinstance B.bool (by decide +kernel) (pv_var 1)))) rfl) (fun _ => sd_ret ?_) fun z => by cases z
  refine pv_if (p := false) (PVT.eq (pvt_isN (pv_var 1)) rfl) (fun z => by cases z) fun _ => ?_
  refine PV.pd (PV.eq (sv' := .d (.bool (decide (p = q)))) (pv_and (pv_isi "bool" (.inr (.inl rfl)) B.isinstance B.bool (by decide +kernel) (pv_var 0)) fun _ => pd_last (pv_eqB (pv_isB (pv_var 0) pv_bl) (pv_isB (pv_var 1) pv_bl))) ?_) ?_
  · cases p <;> cases q <;> rfl
  · exact hR
theorem ok25 (B : Bl mg) (D : Def K mg "_law_is_whole" s25 ["value"]) : FnOk P w K mg base CX0 1 D.f D.fd ["value"] (spD K (PureS f25)) := by
  refine fn_def D.F sc25 (fun xs cs R ⟨_, _, d, ⟨x, e, _⟩, _⟩ => by rw [e]; rfl) fun cdv A outer s H E xs cs R hr ⟨hcs, _, d, ⟨x, hx, hd⟩, hR⟩ => ?_
  subst hcs hx hd
  refine sd_ret (PV.pd (pv_and (pv_isi "int" (.inl rfl) B.isinstance B.int (by decide +kernel) (pv_var 0)) fun _ => pd_last (pv_not (pv_isi "bool" (.inr (.inl rfl)) B.isinstance B.bool (by decide +kernel) (pv_var 0)))) ?_)
  rw [isInt_eq]
  exact hR
theorem ok26 (B : Bl mg) (D : Def K mg "_law_added" s26 ["many", "pairs"]) : FnOk P w K mg base CX0 1 D.f D.fd ["many", "pairs"] (spD K (PureS f26)) := by
  refine fn_defT D.F sc26 (fun xs cs R ⟨_, _, d, ⟨_, _, _, _, _, _, e, _⟩, _⟩ => by rw [e]; rfl) fun cdv A outer s H E xs cs R hr ⟨hcs, _, d, ⟨n, v, ps, hn, hv, hall, hx, hd⟩, hR⟩ => ?_
  subst hcs hx hd
  have zl : (1000000 : Nat) ≤ sizeLine := by decide
  refine sd_asgLcM 2 (own := [("k", 3)]) (g := gName 3) (h := fun _ => (List.replicate n 0).map .int) (pvi_range B.range (pva_cons (pv_var 0) pva_nil) ⟨by omega, by omega⟩) (blkOk_by (by kernel_rfl)) (fun _ _ _ _ _ => pg_name (i := 3) sc26.nd rfl (Or.inl rfl)) gd_name (by decide) (fun x hx => ⟨_, rfl, fun cs2 s H C cl fp => ?_⟩) ?_ ?_ sc26.nd
  · refine pd_repLO (xs := [.int 0]) (pv_lst [.int 0] (pva_cons pv_int pva_nil) rfl) (pv_var 0) ⟨by omega, by omega⟩ ?_ ⟨?_, rfl⟩
    · simp; omega
    · simp [List.map_replicate]
  · rw [rgD_length]; omega
  have e0 : (rgD 0 (n : Int).toNat).map (fun _ => (List.replicate n 0).map PyData.int) = (addR n ((pairsOf ps).take 0)).map fun r => r.map .int := by
    rw [List.take_zero, addR_nil, List.map_map]
    unfold rgD
    rw [List.map_map]
    simp
  rw [e0]
  refine sd_for (xs := ps) (f := fPair 4 5) (fun i ds' cs' => ∃ a1 a2 a3 a4, cs' = [some (mC (addR n ((pairsOf ps).take i)))] ∧ ds' = [some (.d (.int n)), some (.d v), some (.own 0), a1, a2, a3, a4]) (pvi_seq (pv_var 1) hv) (pg_pair 4 5 sc26.nd) gd_pair ⟨_, _, _, _, rfl, rfl⟩ (fun i x ds' cs' hx ⟨a1, a2, a3, a4, e1, e2⟩ => ?_) (fun ds' cs' ⟨a1, a2, a3, a4, e1, e2⟩ => ?_) .never
  · subst e1 e2
    obtain ⟨wt, ns, rfl, hin⟩ := hall x (List.mem_of_getElem? hx)
    refine ⟨_, rfl, ?_⟩
    have hp : (pairsOf ps)[i]? = some (wt, ns) := by unfold pairsOf; rw [List.getElem?_map, hx]; rw [← pairOf_in wt ns]; rfl
    refine sd_for (xs := rgD 0 (n : Int).toNat) (g := gName 3) (f := fName 3) (fun j ds' cs' => ∃ b1, cs' = [some (mC (decTo j (addR n ((pairsOf ps).take i)) (ns.map Int.toNat) (-wt)))] ∧ ds' = [some (.d (.int n)), some (.d v), some (.own 0), b1, some (.d (.int wt)), some (.d (.tuple (ns.map .int))), a4]) (pvi_range B.range (pva_cons (pv_var 0) pva_nil) ⟨by omega, by omega⟩) (pg_name (i := 3) sc26.nd rfl (by first | exact Or.inl rfl | exact Or.inr rfl)) gd_name ⟨_, by rw [decTo_zero], rfl⟩ (fun j y ds' cs' hy ⟨b1, e1, e2⟩ => ?_) (fun ds' cs' ⟨b1, e1, e2⟩ => ?_) .never
    · subst e1 e2
      obtain ⟨hjn0, rfl⟩ := rgD_get hy
      have hjn : j < n := by omega
      have ej : (0 : Int) + (j : Nat) = (j : Nat) := by omega
      rw [ej]
      obtain ⟨q1, q2⟩ := fn_toNat hin hjn
      have hM := rect_addR n ((pairsOf ps).take i)
      obtain ⟨r, r1, r2, r3⟩ := hM.get hjn q2
      have hd1 : (decTo j (addR n ((pairsOf ps).take i)) (ns.map Int.toNat) (-wt))[j]? = some r := decTo_at r1
      have hdl : (decTo j (addR n ((pairsOf ps).take i)) (ns.map Int.toNat) (-wt)).length = n := by simp [decTo, hM.len]
      have hpl : atI (ns.map PyData.int) (j : Nat) = some (.int ((fn (ns.map Int.toNat) j : Nat) : Int)) := atI_nat (by rw [List.getElem?_map, q1]; rfl)
      refine ⟨_, rfl, sd_setM (m := 0) (d := .int (at2 (addR n ((pairsOf ps).take i)) j (fn (ns.map Int.toNat) j) + wt)) (r := r.map .int) (pv_add (pv_ixM (rs := (decTo j (addR n ((pairsOf ps).take i)) (ns.map Int.toNat) (-wt)).map fun r => r.map .int) (r := r.map .int) (pv_var 2) (pv_var 3) (pv_ixT (pv_var 5) (pv_var 3) hpl) rfl (atI_nat (by rw [List.getElem?_map, hd1]; rfl)) (atI_nat (by rw [List.getElem?_map, r2]; rfl))) (pv_var 4)) (pv_var 2) (pv_var 3) (pv_ixT (pv_var 5) (pv_var 3) hpl) rfl (atI_nat (by rw [List.getElem?_map, hd1]; rfl)) (by rw [List.length_map, hdl]; exact ixN_n hjn) (by rw [List.length_map, r3]; exact ixN_n q2) (sd_nil ⟨_, ?_, rfl⟩)⟩
      show [some (Cell.mat _)] = [some (Cell.mat _)]
      congr 3
      rw [decTo_succ r1, List.map_set, List.map_set, Int.sub_neg]
    · subst e1 e2
      have e3 : decTo (rgD 0 (n : Int).toNat).length (addR n ((pairsOf ps).take i)) (ns.map Int.toNat) (-wt) = addR n ((pairsOf ps).take (i + 1)) := by
        rw [rgD_length]
        exact addR_step hp hin
      rw [e3]
      exact sd_nil ⟨_, _, _, _, rfl, rfl⟩
  · subst e1 e2
    have e4 : (pairsOf ps).take ps.length = pairsOf ps := by
      have : ps.length = (pairsOf ps).length := by simp [pairsOf]
      rw [this, List.take_length]
    rw [e4]
    have hM := rect_addR n (pairsOf ps)
    refine sd_freeze (ds' := [some (.d (.int n)), some (.d v), some (.d (matD (addR n (pairsOf ps)))), a1, a2, a3, a4]) 0 (mC (addR n (pairsOf ps))) rfl ⟨rfl, fun i sv q => ?_⟩ ?_
    · rw [mC_data]
      match i with
      | 0 => exact .inl q
      | 1 => exact .inl q
      | 2 => simp at q; exact .inr ⟨rfl, q.symm⟩
      | i + 3 => exact .inl q
    refine sd_ret (PV.pd (PV.eq (sv' := .d (sqD (addR n (pairsOf ps)))) (pv_tupleL B.tuple (pva_cons (pv_lc (own := [("line", 6)]) (g := gName 6) (h := fun x => match x with | .list ys => .tuple ys | _ => .none) (pvi_list (pv_var 2)) (blkOk_by (by kernel_rfl)) (fun _ _ _ _ _ => pg_name (i := 6) sc26.nd rfl (Or.inl rfl)) gd_name (by decide) (fun x hx => ⟨_, rfl, fun s H C cl fp => ?_⟩) ?_ sc26.nd) pva_nil)) ?_) ?_)
    · obtain ⟨r, hr1, rfl⟩ := List.mem_map.mp hx
      exact pv_tupleL B.tuple (pva_cons (pv_var 6) pva_nil)
    · rw [List.length_map, hM.len]; omega
    · rw [List.map_map]; rfl
    · exact ⟨trivial, hR⟩
end
end K69
set_option Elab.async false
set_option linter.all false
set_option maxRecDepth 100000
set_option maxHeartbeats 4000000
namespace K69
open PySem PySem.Spec PyProof.Rows L2 DL
abbrev s27 : Stmt := topS 27
theorem sc27 : FnScope ["square", "value", "many", "lines", "line", "columns", "k", "even", "one", "pair"] ["square", "value"] (defScope s27) := ⟨rfl, rfl, rfl, by decide +kernel, rfl, by decide +kernel, by decide +kernel⟩
/-- what the law tries: places are tuples of ints -/
def PairOk (x : PyData) : Prop := ∀ a ps, x = .tuple [a, .tuple ps] → ∃ ns : List Int, ps = ns.map .int ∧ ns.length ≤ 60
def ValOk (v : PyData) : Prop := ∀ xs, SeqOf v xs → ∀ x ∈ xs, PairOk x
def f27 : List SV → PyData → Prop := fun xs d => ∃ rs v, SqOk rs ∧ ValOk v ∧ xs = [.d (sqD rs), .d v] ∧ d = .bool (isB rs v)
def hRowS : PyData → PyData
  | .tuple ys => .int (intsOf ys).sum
  | _ => .none
def hColS (rs : List (List Int)) : PyData → PyData
  | .int k => .int (rs.map fun r => r.getD k.toNat 0).sum
  | _ => .none
def hItem (j : Nat) : PyData → PyData
  | .tuple ys => ys.getD j .none
  | _ => .none
def pNe (c : Int) : PyData → Bool
  | .int i => !decide (i = c)
  | _ => false
theorem rgD_rangeI (n : Nat) : rgD 0 n = (rangeI n).map .int := by
  unfold rgD rangeI
  rw [List.map_map]
  apply List.map_congr_left
  intro k _
  simp
theorem wtB_in {n : Nat} {x : PyData} (h : wtB n x = true) : PairIn n x ∧ 0 ≤ (pairOf x).1 ∧ (pairOf x).2.Perm (rangeI n) := by
  obtain ⟨w, ns, rfl, h1, h2, h3, h4⟩ := wtB_get h
  refine ⟨⟨w, ns, rfl, h2⟩, by rw [h4]; show 0 ≤ w; omega, by rw [h4]; exact perm_rangeI h2 (inN_nd h2 h3)⟩
theorem seq_even {rs : List (List Int)} {xs : List PyData} (ok : SqOk rs) (h : seqB rs xs = true) : evenB rs = true := by
  unfold seqB at h
  rw [Bool.and_eq_true, Bool.and_eq_true] at h
  obtain ⟨h1, h2, h3⟩ := h
  have e := of_decide_eq_true h3
  have s := addR_sto (n := rs.length) (ps := pairsOf xs) fun p hp => by
    obtain ⟨x, hx, rfl⟩ := List.mem_map.mp hp
    exact (wtB_in (List.all_eq_true.mp h2 x hx)).2
  rw [e] at s
  exact ok.even.mpr ⟨_, s⟩
theorem isB_noneven {rs : List (List Int)} {v : PyData} (ok : SqOk rs) (hv : v ≠ .none) (he : evenB rs = false) : isB rs v = false := by
  cases v with
  | none => exact absurd rfl hv
  | list xs =>
    cases h : seqB rs xs with
    | false => exact h
    | true => rw [seq_even ok h] at he; cases he
  | tuple xs =>
    cases h : seqB rs xs with
    | false => exact h
    | true => rw [seq_even ok h] at he; cases he
  | _ => rfl
theorem seqB_bad {rs : List (List Int)} {xs : List PyData} {x : PyData} (hx : x ∈ xs) (h : wtB rs.length x = false) : seqB rs xs = false := by
  unfold seqB
  have : xs.all (wtB rs.length) = false := by
    cases q : xs.all (wtB rs.length) with
    | false => rfl
    | true => rw [List.all_eq_true.mp q x hx] at h; cases h
  rw [this]; simp
theorem wtB_len {n : Nat} {xs : List PyData} (h : xs.length ≠ 2) : wtB n (.tuple xs) = false := by
  unfold wtB
  split
  · rename_i e; cases e; exact absurd rfl h
  · rfl
/-- the shapes of a pair -/
theorem pair_cases (n : Nat) (x : PyData) (hx : PairOk x) : (isD "tuple" x = false ∧ wtB n x = false) ∨ (∃ xs, x = .tuple xs ∧ xs.length ≠ 2 ∧ wtB n x = false) ∨ (∃ a b, x = .tuple [a, b] ∧ isInt a = false ∧ wtB n x = false) ∨
    (∃ w b, x = .tuple [.int w, b] ∧ w < 1 ∧ wtB n x = false) ∨ (∃ w b, x = .tuple [.int w, b] ∧ 1 ≤ w ∧ isD "tuple" b = false ∧ wtB n x = false) ∨ (∃ w ns, x = .tuple [.int w, .tuple (ns.map .int)] ∧ 1 ≤ w ∧ ns.length ≤ 60 ∧ wtB n x = decide (srt ns = rangeI n)) := by
  cases x with
  | tuple xs =>
    match xs with
    | [] => exact .inr (.inl ⟨[], rfl, by simp, wtB_len (by simp)⟩)
    | [a] => exact .inr (.inl ⟨[a], rfl, by simp, wtB_len (by simp)⟩)
    | a :: b :: c :: r => exact .inr (.inl ⟨_, rfl, by simp, wtB_len (by simp)⟩)
    | [a, b] =>
      cases a with
      | int w =>
        by_cases h1 : 1 ≤ w
        · cases b with
          | tuple ps =>
            obtain ⟨ns, rfl, hl⟩ := hx _ _ rfl
            refine .inr (.inr (.inr (.inr (.inr ⟨w, ns, rfl, h1, hl, ?_⟩))))
            unfold wtB
            simp only
            rw [decide_eq_true h1, Bool.true_and]
            cases q : (decide ((ns.map PyData.int).length = n) && plB n (ns.map .int)) with
            | true => exact (decide_eq_true (srt_range.mpr (plB_ints.mp q))).symm
            | false =>
              symm
              refine decide_eq_false fun z => ?_
              rw [plB_ints.mpr (srt_range.mp z)] at q
              cases q
          | _ => exact .inr (.inr (.inr (.inr (.inl ⟨w, _, rfl, h1, rfl, rfl⟩))))
        · refine .inr (.inr (.inr (.inl ⟨w, b, rfl, by omega, ?_⟩)))
          unfold wtB
          split
          · rename_i e; cases e; rw [decide_eq_false h1]; rfl
          · rfl
      | _ => exact .inr (.inr (.inl ⟨_, _, rfl, rfl, rfl⟩))
  | _ => exact .inl ⟨rfl, rfl⟩
section
variable {P : Program} {w : World} {K : PySem.W.Frag} {mg : Str → Option Value} {base : Heap}
theorem ok27 (B : Bl mg) (D25 : Def K mg "_law_is_whole" s25 ["value"]) (F25 : FnOk P w K mg base CX0 1 D25.f D25.fd ["value"] (spD K (PureS f25))) (D26 : Def K mg "_law_added" s26 ["many", "pairs"]) (F26 : FnOk P w K mg base CX0 1 D26.f D26.fd ["many", "pairs"] (spD K (PureS f26)))
    (D : Def K mg "_law_is_sum" s27 ["square", "value"]) : FnOk P w K mg base CX0 2 D.f D.fd ["square", "value"] (spD K (PureS f27)) := by
  refine fn_def D.F sc27 (fun xs cs R ⟨_, _, d, ⟨_, _, _, _, e, _⟩, _⟩ => by rw [e]; rfl) fun cdv A outer s H E xs cs R hr ⟨hcs, _, d, ⟨rs, v, ok, hvo, hx, hd⟩, hR⟩ => ?_
  subst hcs hx hd
  have h1 := ok.pos
  have h2 := ok.six
  have zl : (1000000 : Nat) ≤ sizeLine := by decide
  refine sd_asg 2 (sv := .d (.int (rs.length : Nat))) (PV.eq (pv_lenT B.len (pva_cons (pv_var 0) pva_nil)) (by rw [List.length_map])) ?_ sc27.nd
  refine sd_asg 3 (pv_lc (own := [("line", 4)]) (g := gName 4) (h := hRowS) (pvi_tup (pv_var 0)) (blkOk_by (by kernel_rfl)) (fun _ _ _ _ _ => pg_name (i := 4) sc27.nd rfl (Or.inl rfl)) gd_name (by decide) (fun x hx => ⟨_, rfl, fun s H C cl fp => ?_⟩) ?_ sc27.nd) ?_ sc27.nd
  · obtain ⟨r, hr1, rfl⟩ := List.mem_map.mp hx
    refine PV.eq (pv_sumT (ns := r) B.sum (pva_cons (pv_var 4) pva_nil)) ?_
    show SV.d (.int r.sum) = SV.d (.int (intsOf (r.map .int)).sum)
    rw [intsOf_map]
  · rw [List.length_map]; omega
  have e1 : (rs.map rowD).map hRowS = (rs.map List.sum).map .int := by
    rw [List.map_map, List.map_map]
    apply List.map_congr_left
    intro r _
    show PyData.int (intsOf (r.map .int)).sum = .int r.sum
    rw [intsOf_map]
  rw [e1]
  refine sd_asgLc 5 (own := [("k", 6)]) (g := gName 6) (h := hColS rs) (pvi_range B.range (pva_cons (pv_var 2) pva_nil) ⟨by omega, by omega⟩) (blkOk_by (by kernel_rfl)) (fun _ _ _ _ _ => pg_name (i := 6) sc27.nd rfl (by first | exact Or.inl rfl | exact Or.inr rfl)) gd_name (by decide) (fun x hx => ?_) ?_ ?_ sc27.nd
  · obtain ⟨j, hj⟩ := List.mem_iff_getElem?.mp hx
    obtain ⟨hjn, rfl⟩ := rgD_get hj
    have hjn' : j < rs.length := by omega
    refine ⟨_, rfl, fun s H C cl fp => ?_⟩
    refine PV.eq (pv_sumL (ns := rs.map fun r => r.getD j 0) B.sum (pva_cons (PV.eq (pv_lc (own := [("line", 4)]) (g := gName 4) (h := hItem j) (pvi_tup (pv_var 0)) (blkOk_by (by kernel_rfl)) (fun _ _ _ _ _ => pg_name (i := 4) sc27.nd rfl (Or.inl rfl)) gd_name (by decide) (fun x hx => ⟨_, rfl, fun s H C cl fp => ?_⟩) ?_ sc27.nd) ?_) pva_nil)) ?_
    · obtain ⟨r, hr1, rfl⟩ := List.mem_map.mp hx
      have hjr : j < r.length := by rw [ok.len r hr1]; exact hjn'
      refine pv_ixT (xs := r.map .int) (pv_var 4) (pv_var 6) ?_
      have ej : (0 : Int) + (j : Nat) = (j : Nat) := by omega
      rw [ej]
      refine atI_nat ?_
      simp [List.getD_eq_getElem?_getD, hjr, rowD, hItem]
    · rw [List.length_map]; omega
    · rw [List.map_map, List.map_map]
      congr 2
      apply List.map_congr_left
      intro r hr1
      have hjr : j < r.length := by rw [ok.len r hr1]; exact hjn'
      simp [rowD, hItem, List.getD_eq_getElem?_getD, hjr]
    · simp [hColS]
  · rw [rgD_length]; omega
  have e2 : (rgD 0 (rs.length : Int).toNat).map (hColS rs) = ((colsL rs).map List.sum).map .int := by
    unfold rgD colsL
    rw [List.map_map, List.map_map, List.map_map]
    apply List.map_congr_left
    intro k _
    simp [hColS]
  rw [e2]
  have hn0 : (rs.map List.sum)[0]? = some ((rs.map List.sum).getD 0 0) := by
    rw [List.getD_eq_getElem?_getD, List.getElem?_eq_getElem (by rw [List.length_map]; exact h1)]; rfl
  refine sd_asg 7 (sv := .d (.bool (evenB rs))) (PV.eq (pv_eqD hr.units (PV.eq (sv' := .d (.list (((sumsL rs).filter fun x => !decide (x = (rs.map List.sum).getD 0 0)).map .int))) (pv_lcF (own := [("one", 8)]) (g := gName 8) (p := pNe ((rs.map List.sum).getD 0 0)) (h := fun x => x) (xs := (sumsL rs).map .int) (pvi_list (PV.eq (pv_catL (pv_var 3) (pv_var 5) ?_) ?_)) (blkOk_by (by kernel_rfl)) (fun _ _ _ _ _ => pg_name (i := 8) sc27.nd rfl (Or.inl rfl)) gd_name (by decide) (fun x hx => ?_) ?_ sc27.nd) ?_) (pv_lst [] pva_nil rfl) (shaped_ints _) shaped_nil) ?_) ?_ sc27.nd
  · simp [colsL]; omega
  · rw [← List.map_append]; rfl
  · obtain ⟨y, hy, rfl⟩ := List.mem_map.mp hx
    exact ⟨_, rfl, fun s H C cl fp => pvts_one (pvt_neI (pv_var 8) (pv_ixL (pv_var 3) pv_int (by rw [show (0 : Int) = ((0 : Nat) : Int) from rfl]; exact atI_nat (by rw [List.getElem?_map, hn0]; rfl)))), fun _ s H C cl fp => pv_var 8⟩
  · simp [sumsL, colsL]; omega
  · rw [List.filter_map, List.map_map]
    rfl
  · have := eqv_ints ((sumsL rs).filter fun x => !decide (x = (rs.map List.sum).getD 0 0)) []
    rw [List.map_nil] at this
    rw [this]
    cases q : evenB rs with
    | true => rw [decide_eq_true ((even_filter ok).mpr q)]
    | false => rw [decide_eq_false fun z => by rw [(even_filter ok).mp z] at q; cases q]
  refine sd_ifR (p := isNoneD v || !evenB rs) (pvt_or (pvt_isN (pv_var 1)) fun _ => pvw_or1 (pvt_not (pvt_val (pv_var 7)))) (fun hp => ?_) (fun hp => ?_)
  · refine sd_ret (PV.pd (pv_and (pv_isN (pv_var 1)) fun _ => pd_last (pv_not (pv_var 7))) ?_)
    have : isB rs v = (isNoneD v && !evenB rs) := by
      by_cases hv : v = .none
      · subst hv; rfl
      · have hnn : isNoneD v = false := by cases v <;> first | rfl | exact absurd rfl hv
        rw [hnn] at hp ⊢
        have he : evenB rs = false := by simpa using hp
        rw [isB_noneven ok hv he]; rfl
    rw [this] at hR
    exact hR
  have hev : evenB rs = true := by
    cases q : evenB rs with
    | true => rfl
    | false => rw [q] at hp; simp at hp
  have hnn : isNoneD v = false := by
    cases q : isNoneD v with
    | false => rfl
    | true => rw [q] at hp; simp at hp
  have hvn : v ≠ .none := fun e => by rw [e] at hnn; cases hnn
  have eS : (isD "list" v || isD "tuple" v) = isSeq v := by cases v <;> simp [isD, isT, tyD, isSeq]
  by_cases hs : isSeq v = true
  rotate_left
  · have hs' : isSeq v = false := by simpa using hs
    rw [isB_other hvn hs'] at hR
    refine sd_ifR (p := true) (PVT.eq (pvt_or (q := true) (pvt_not (pvt_val (pv_isi2 "list" "tuple" (.inr (.inr (.inr (.inr (.inl rfl))))) (.inr (.inr (.inr (.inr (.inr rfl))))) B.isinstance B.list (by decide +kernel) B.tuple (by decide +kernel) (pv_var 1)))) fun h => by rw [eS, hs'] at h; cases h) (by rw [eS, hs']; rfl)) (fun _ => sd_ret (PV.pd pv_bl ?_)) fun z => by cases z
    exact hR
  obtain ⟨xs, hv⟩ := isSeq_get hs
  rw [isB_seq hv] at hR
  have hn2 : ((rs.length : Int) - 1) * ((rs.length : Int) - 1) + 1 = (((rs.length - 1) * (rs.length - 1) + 1 : Nat) : Int) := by
    have : (rs.length : Int) - 1 = ((rs.length - 1 : Nat) : Int) := by omega
    rw [this]
    simp
  refine sd_ifR (p := decide (((rs.length - 1) * (rs.length - 1) + 1) < xs.length)) (PVT.eq (pvt_or (pvt_not (pvt_val (pv_isi2 "list" "tuple" (.inr (.inr (.inr (.inr (.inl rfl))))) (.inr (.inr (.inr (.inr (.inr rfl))))) B.isinstance B.list (by decide +kernel) B.tuple (by decide +kernel) (pv_var 1)))) fun _ => pvw_or1 (pvt_gt (pv_lenS B.len (pva_cons (pv_var 1) pva_nil) hv) (pv_add (pv_mul (pv_sub (pv_var 2) pv_int) (pv_sub (pv_var 2) pv_int) (.inl (by omega))) pv_int))) ?_) (fun hl => ?_) (fun hl => ?_)
  · rw [eS, hs, hn2]
    simp only [Bool.not_true, Bool.false_or]
    exact decide_eq_decide.mpr (by omega)
  · refine sd_ret (PV.pd pv_bl ?_)
    have : seqB rs xs = false := by
      unfold seqB
      rw [decide_eq_false (by have := of_decide_eq_true hl; omega)]; rfl
    rw [this] at hR
    exact hR
  have hlen : xs.length ≤ (rs.length - 1) * (rs.length - 1) + 1 := by have := of_decide_eq_false hl; omega
  have hlen2 : xs.length ≤ 1000 := by
    have : (rs.length - 1) * (rs.length - 1) ≤ 5 * 5 := Nat.mul_le_mul (by omega) (by omega)
    omega
  refine sd_for (xs := xs) (g := gName 9) (f := fName 9) (fun i ds' cs' => ∃ a1 a2 a3 a4, cs' = [] ∧ ds' = [some (.d (sqD rs)), some (.d v), some (.d (.int (rs.length : Nat))), a1, a2, some (.d (.list (((colsL rs).map List.sum).map .int))), a3, some (.d (.bool (evenB rs))), a4, (if i = 0 then none else some (.d (xs.getD (i - 1) .none)))] ∧ ∀ x ∈ xs.take i, wtB rs.length x = true) (pvi_seq (pv_var 1) hv) (pg_name (i := 9) sc27.nd rfl (by first | exact Or.inl rfl | exact Or.inr rfl)) gd_name ⟨_, _, _, _, rfl, rfl, fun x hx => by simp at hx⟩ (fun i x ds' cs' hx ⟨a1, a2, a3, a4, e1, e2, hpre⟩ => ⟨_, rfl, ?_⟩) (fun ds' cs' ⟨a1, a2, a3, a4, e1, e2, hpre⟩ => ?_) .never
  · subst e1 e2
    have hxm := List.mem_of_getElem? hx
    have hxd : xs.getD i .none = x := by rw [List.getD_eq_getElem?_getD, hx]; rfl
    have bad : wtB rs.length x = false → R [] (.d (.bool false)) := fun hb => by rw [seqB_bad hxm hb] at hR; exact hR
    rcases pair_cases rs.length x (hvo xs hv x hxm) with ⟨c1, hb⟩ | ⟨ys, rfl, c1, hb⟩ | ⟨a, b, rfl, c1, hb⟩ | ⟨wt, b, rfl, c1, hb⟩ | ⟨wt, b, rfl, c1, c2, hb⟩ | ⟨wt, ns, rfl, c1, c2, hb⟩
    · refine sd_ifR (p := true) (PVT.eq (pvt_or (q := true) (pvt_not (pvt_val (pv_isi "tuple" (.inr (.inr (.inr (.inr (.inr rfl))))) B.isinstance B.tuple (by decide +kernel) (pv_var 9)))) fun h => by rw [c1] at h; cases h) (by rw [c1]; rfl)) (fun _ => sd_ret (PV.pd pv_bl ?_)) fun z => by cases z
      exact bad hb
    · refine sd_ifR (p := true) (PVT.eq (pvt_or (pvt_not (pvt_val (pv_isi "tuple" (.inr (.inr (.inr (.inr (.inr rfl))))) B.isinstance B.tuple (by decide +kernel) (pv_var 9)))) fun _ => pvw_or (q := true) (pvt_neI (pv_lenT B.len (pva_cons (pv_var 9) pva_nil)) pv_int) fun h => absurd (of_decide_eq_true (by simpa using h)) (by omega)) (by rw [decide_eq_false (by omega : ¬ ((ys.length : Nat) : Int) = 2)]; simp)) (fun _ => sd_ret (PV.pd pv_bl ?_)) fun z => by cases z
      exact bad hb
    · refine sd_ifR (p := true) (PVT.eq (pvt_or (pvt_not (pvt_val (pv_isi "tuple" (.inr (.inr (.inr (.inr (.inr rfl))))) B.isinstance B.tuple (by decide +kernel) (pv_var 9)))) fun _ => pvw_or (pvt_neI (pv_lenT B.len (pva_cons (pv_var 9) pva_nil)) pv_int) fun _ => pvw_or (q := true) (pvt_not (pvt_val (pv_call F25 (hr.mono (by decide)) D25.m D25.F.kp D25.b (pva_cons (pv_ixT (pv_var 9) pv_int (atI_nat (j := 0) rfl)) pva_nil) ⟨_, rfl, rfl⟩))) fun h => by rw [c1] at h; cases h) (by rw [c1]; simp)) (fun _ => sd_ret (PV.pd pv_bl ?_)) fun z => by cases z
      exact bad hb
    · refine sd_ifR (p := true) (PVT.eq (pvt_or (pvt_not (pvt_val (pv_isi "tuple" (.inr (.inr (.inr (.inr (.inr rfl))))) B.isinstance B.tuple (by decide +kernel) (pv_var 9)))) fun _ => pvw_or (pvt_neI (pv_lenT B.len (pva_cons (pv_var 9) pva_nil)) pv_int) fun _ => pvw_or (pvt_not (pvt_val (pv_call F25 (hr.mono (by decide)) D25.m D25.F.kp D25.b (pva_cons (pv_ixT (pv_var 9) pv_int (atI_nat (j := 0) rfl)) pva_nil) ⟨_, rfl, rfl⟩))) fun _ => pvw_or (q := true) (pvt_lt (pv_ixT (pv_var 9) pv_int (atI_nat (j := 0) rfl)) pv_int) fun h => absurd (of_decide_eq_false h) (by omega)) (by rw [decide_eq_true c1]; simp)) (fun _ => sd_ret (PV.pd pv_bl ?_)) fun z => by cases z
      exact bad hb
    · refine sd_ifR (p := true) (PVT.eq (pvt_or (pvt_not (pvt_val (pv_isi "tuple" (.inr (.inr (.inr (.inr (.inr rfl))))) B.isinstance B.tuple (by decide +kernel) (pv_var 9)))) fun _ => pvw_or (pvt_neI (pv_lenT B.len (pva_cons (pv_var 9) pva_nil)) pv_int) fun _ => pvw_or (pvt_not (pvt_val (pv_call F25 (hr.mono (by decide)) D25.m D25.F.kp D25.b (pva_cons (pv_ixT (pv_var 9) pv_int (atI_nat (j := 0) rfl)) pva_nil) ⟨_, rfl, rfl⟩))) fun _ => pvw_or (pvt_lt (pv_ixT (pv_var 9) pv_int (atI_nat (j := 0) rfl)) pv_int) fun _ => pvw_or1 (pvt_not (pvt_val (pv_isi "tuple" (.inr (.inr (.inr (.inr (.inr rfl))))) B.isinstance B.tuple (by decide +kernel) (pv_ixT (pv_var 9) pv_int (atI_nat (j := 1) rfl)))))) (by rw [c2]; simp)) (fun _ => sd_ret (PV.pd pv_bl ?_)) fun z => by cases z
      exact bad hb
    · refine sd_ifNo (PVT.eq (pvt_or (pvt_not (pvt_val (pv_isi "tuple" (.inr (.inr (.inr (.inr (.inr rfl))))) B.isinstance B.tuple (by decide +kernel) (pv_var 9)))) fun _ => pvw_or (pvt_neI (pv_lenT B.len (pva_cons (pv_var 9) pva_nil)) pv_int) fun _ => pvw_or (pvt_not (pvt_val (pv_call F25 (hr.mono (by decide)) D25.m D25.F.kp D25.b (pva_cons (pv_ixT (pv_var 9) pv_int (atI_nat (j := 0) rfl)) pva_nil) ⟨_, rfl, rfl⟩))) fun _ => pvw_or (pvt_lt (pv_ixT (pv_var 9) pv_int (atI_nat (j := 0) rfl)) pv_int) fun _ => pvw_or1 (pvt_not (pvt_val (pv_isi "tuple" (.inr (.inr (.inr (.inr (.inr rfl))))) B.isinstance B.tuple (by decide +kernel) (pv_ixT (pv_var 9) pv_int (atI_nat (j := 1) rfl)))))) (by rw [decide_eq_false (by omega : ¬ wt < 1)]; rfl)) ?_
      refine sd_ifR (p := !decide (srt ns = rangeI rs.length)) (PVT.eq (pvt_or (pvt_neD hr.units (PV.eq (sv' := .d (.list [])) (pv_lcF (own := [("one", 8)]) (g := gName 8) (p := fun _ => false) (h := fun x => x) (xs := ns.map .int) (pvi_tup (pv_ixT (pv_var 9) pv_int (atI_nat (j := 1) rfl))) (blkOk_by (by kernel_rfl)) (fun _ _ _ _ _ => pg_name (i := 8) sc27.nd rfl (Or.inl rfl)) gd_name (by decide) (fun x hx => ?_) ?_ sc27.nd) ?_) (pv_lst [] pva_nil rfl) shaped_nil shaped_nil) fun _ => pvw_or1 (pvt_neD hr.units (pv_sortedT (ms := srt ns) B.sorted (pva_cons (pv_ixT (pv_var 9) pv_int (atI_nat (j := 1) rfl)) pva_nil) (by omega) (srt_perm ns) (srt_sorted ns)) (PV.eq (sv' := .d (.list ((rangeI rs.length).map .int))) (pv_listRange B.list B.range (pv_var 2) ⟨by omega, by omega⟩) ?_) (shaped_ints _) (shaped_ints _))) ?_) (fun hp => ?_) (fun hp => ?_)
      · obtain ⟨y, hy, rfl⟩ := List.mem_map.mp hx
        exact ⟨_, rfl, fun s H C cl fp => pvts_one (PVT.eq (pvt_not (pvt_val (pv_call F25 (hr.mono (by decide)) D25.m D25.F.kp D25.b (pva_cons (pv_var 8) pva_nil) ⟨_, rfl, rfl⟩))) rfl), fun h => by cases h⟩
      · rw [List.length_map]; omega
      · have : (ns.map PyData.int).filter (fun _ => false) = [] := List.filter_eq_nil_iff.mpr (fun _ _ => by simp)
        rw [this]; rfl
      · rw [← rgD_rangeI]; rfl
      · rw [eqv_ints]
        have : PyData.eqv (.list []) (.list []) = true := by simp [PyData.eqv, PyData.eqvAll]
        rw [this]; rfl
      · refine sd_ret (PV.pd pv_bl ?_)
        refine bad ?_
        rw [hb]
        simpa using hp
      · refine sd_nil ⟨a1, a2, a3, a4, rfl, ?_, fun y hy => ?_⟩
        · rw [if_neg (Nat.succ_ne_zero i), Nat.add_sub_cancel, hxd]; rfl
        · rw [List.take_add_one, hx] at hy
          rcases List.mem_append.mp hy with hy | hy
          · exact hpre y hy
          · simp at hy
            subst hy
            rw [hb]
            simpa using hp
  · subst e1 e2
    rw [List.take_length] at hpre
    have hall : xs.all (wtB rs.length) = true := List.all_eq_true.mpr hpre
    have hsb : seqB rs xs = decide (addR rs.length (pairsOf xs) = rs) := by
      unfold seqB
      rw [decide_eq_true hlen, hall]; rfl
    rw [hsb] at hR
    refine sd_ret (PV.pd (pv_eqD hr.units (pv_call F26 (hr.mono (by decide)) D26.m D26.F.kp D26.b (pva_cons (pv_var 2) (pva_cons (pv_var 1) pva_nil)) ⟨rs.length, v, xs, h2, hv, fun x hx => (wtB_in (hpre x hx)).1, rfl, rfl⟩) (pv_var 0) (shaped_rowsT _) (shaped_rowsT rs)) ?_)
    show R [] (.d (.bool (PyData.eqv (.tuple _) (.tuple _))))
    have := eqv_rowsT (addR rs.length (pairsOf xs)) rs
    unfold rowD
    rw [this]
    exact hR
end
end K69
set_option Elab.async false
set_option linter.all false
set_option maxRecDepth 100000
set_option maxHeartbeats 4000000
/-! DL13: loops whose iterable has effects; == of ints with effects. -/
namespace DL
open PySem PySem.Spec PyProof.Rows L2
def tDIE (K : PySem.W.Frag) (ds : Slots) (cs : Cells) (Ri : Cells → List PyData → Prop) : TI := fun σ H R => ∃ G A fr, W G A cs fr H ∧ Sl K G A cs.length σ ds ∧ ∀ cs1 xs J H' G' A', Ri cs1 xs → Ex G G' → AEx cs.length A A' → cs.length ≤ cs1.length → W G' A' cs1 fr H' → IterOk J G' xs → R J H'
def PDI (X : Cx) (ds : Slots) (cs : Cells) (tg iter : Expr) (Ri : Cells → List PyData → Prop) : Prop := PI X tg iter (tDIE X.K ds cs Ri)
section
variable {X : Cx} {tg iter e a b : Expr} {ds : Slots} {cs : Cells} {pos p : Pos} {R : Cells → SV → Prop} {rest : List Stmt} {P : DE}
/-- range(n), n read with effects -/
theorem pdi_range {Ra : Cells → List SV → Prop} {Ri : Cells → List PyData → Prop} (hm : X.mg "range" = none) (ha : PDA X ds cs [e] Ra) (k : ∀ cs1 ys, Ra cs1 ys → ∃ n : Int, ys = [.d (.int n)] ∧ 0 ≤ n ∧ n < 2 ^ 62 ∧ Ri cs1 (rgD 0 n.toNat)) (hg : Gl X "range" := by rfl) (hs : starEach [e] X.env = [(false, eval e X.env)] := by rfl) :
    PDI X ds cs tg (.Call (.Name "range" p) [e] [] pos) Ri :=
  pi_imp (pi_range1 hg hm ha hs) fun σ H Q ⟨G, A, fr, w, sl, g⟩ => ⟨G, A, fr, w, sl, fun v x cs1 G1 A1 H1 r1 e1 a1 l1 w1 ok1 => by
    obtain ⟨n, rfl, h0, h1, hR⟩ := k cs1 x r1
    cases ok1 with
    | cons h1 h2 =>
      cases h2
      cases h1
      exact ⟨n, rfl, by omega, by omega, g cs1 _ _ H1 G1 A1 hR e1 a1 l1 w1 iterOk_range⟩⟩
theorem sd_forE {body : List Stmt} {Ri : Cells → List PyData → Prop} {g : TG} {js : List Nat} {f : Slots → PyData → Option Slots} (I : List PyData → Nat → Slots → Cells → Prop) (hi : PDI X ds cs tg iter Ri) (hg : PG X tg g) (gd : GD X.K g js f) (h0 : ∀ cs1 xs, Ri cs1 xs → I xs 0 ds cs1)
    (turn : ∀ xs i x ds' cs', xs[i]? = some x → I xs i ds' cs' → ∃ ds2, f ds' x = some ds2 ∧ SD X ds2 cs' body { nx := I xs (i + 1), ct := I xs (i + 1), bk := fun ds' cs' => False, rt := P.rt })
    (k : ∀ xs ds' cs', I xs xs.length ds' cs' → SD X ds' cs' rest P) (hp : PassesOwn (model X.prog X.w) X.A X.env X.xe) (hc : X.calm = true := by rfl)
    (hs : ∀ x, foldedSetIterable iter X.env x = pure x := by intro _; rfl) : SD X ds cs (.For tg iter body [] pos :: rest) P := by
  have hbody : PSs X body (fun D σ H => ∃ p : List PyData × Nat × Slots × Slots × Cells, (∃ x, p.1[p.2.1]? = some x ∧ I p.1 p.2.1 p.2.2.1 p.2.2.2.2 ∧ f p.2.2.1 x = some p.2.2.2.1) ∧ tSD X.K p.2.2.2.1 p.2.2.2.2 { nx := I p.1 (p.2.1 + 1), ct := I p.1 (p.2.1 + 1), bk := fun ds' cs' => False, rt := P.rt } D σ H) :=
    pss_any (ι := List PyData × Nat × Slots × Slots × Cells) (P := fun p => ∃ x, p.1[p.2.1]? = some x ∧ I p.1 p.2.1 p.2.2.1 p.2.2.2.2 ∧ f p.2.2.1 x = some p.2.2.2.1) (t := fun p => tSD X.K p.2.2.2.1 p.2.2.2.2 { nx := I p.1 (p.2.1 + 1), ct := I p.1 (p.2.1 + 1), bk := fun ds' cs' => False, rt := P.rt }) fun p ⟨x, h1, h2, h3⟩ => by
      obtain ⟨ds2, q1, q2⟩ := turn p.1 p.2.1 x p.2.2.1 p.2.2.2.2 h1 h2
      rw [h3] at q1
      cases q1
      exact q2
  refine sd_cons (M := fun ds' cs' => ∃ xs, I xs xs.length ds' cs') (ps_imp (ps_for hp hc hi hg hbody hs) fun D σ H ⟨G, A, fr, w, sl, go⟩ => ?_) fun ds' cs' ⟨xs, h⟩ => k xs ds' cs' h
  refine ⟨G, A, fr, w, sl, fun cs1 xs J H1 G1 A1 hRi e1 a1 l1 w1 it => ?_⟩
  let Pv : Nat → L2.St → Hp → Prop := fun i σ' H' => ∃ G' A' cs' ds', I xs i ds' cs' ∧ Ex G1 G' ∧ AEx cs.length A1 A' ∧ cs.length ≤ cs'.length ∧ W G' A' cs' fr H' ∧ Sl X.K G' A' cs'.length σ' ds'
  refine ⟨fun i m σ' H' => m = xs.length - i ∧ i ≤ xs.length ∧ Pv i σ' H', ⟨xs.length, by simp, Nat.zero_le _, G1, A1, cs1, ds, h0 _ _ hRi, Ex.refl _, AEx.refl _ _, l1, w1, sl.mono e1 a1 l1⟩, ?_⟩
  rintro i m σ2 H2 ⟨rfl, hi2, G2, A2, cs2, ds2, hI, e2, a2, l2, w2, sl2⟩
  have eG : Ex G1 H2 := e2.trans w2.gh
  by_cases hlt : i < xs.length
  · refine .inr ⟨it.go i H2 eG hlt, Pv (i + 1), fun σ' H' p => ⟨xs.length - (i + 1), by omega, rfl, hlt, p⟩, fun x H3 hy => ?_⟩
    obtain ⟨y, hy2⟩ : ∃ y, xs[i]? = some y := ⟨xs[i], by simp [hlt]⟩
    obtain ⟨ds3, hf, _⟩ := turn xs i y ds2 cs2 hy2 hI
    obtain ⟨G3, e3, w3, okx⟩ : ∃ G3, Ex G2 G3 ∧ W G3 A2 cs2 fr H3 ∧ Dt G3 x y := by
      rcases it.yld i H2 x H3 eG hy y hy2 with ⟨h1, h2⟩ | ⟨T0, us, es, h1, h2, h3, h4, h5⟩
      · exact ⟨G2, Ex.refl _, by rw [h1]; exact w2, h2.mono e2⟩
      · obtain ⟨w', ex⟩ := w2.new (o := .tup us) h2
        refine ⟨upd G2 T0 (.tup us), ex, by rw [h3]; exact w', ?_⟩
        rw [h1, h5]
        exact .tup upd_same ((h4.mono e2).mono ex)
    refine gd x y _ H3 _ _ ds3 G3 A2 cs2.length (sl2.mono e3 (AEx.refl _ _) (Nat.le_refl _)) w3.gh okx hf fun σ4 sl4 _ => ?_
    refine ⟨(xs, i, ds2, ds3, cs2), ⟨y, hy2, hI, hf⟩, G3, A2, fr, w3, sl4, ⟨?_, ?_, fun _ _ _ _ _ _ z => z.elim, ?_⟩⟩
    · exact fun ds5 cs5 G5 A5 σ5 H5 r5 e5 a5 l5 w5 sl5 => ⟨G5, A5, cs5, ds5, r5, e2.trans (e3.trans e5), a2.trans a5 l2, Nat.le_trans l2 l5, w5, sl5⟩
    · exact go.rt.step (e1.trans (e2.trans e3)) (a1.trans a2 (Nat.le_refl _)) l2
    · exact fun ds5 cs5 G5 A5 σ5 H5 r5 e5 a5 l5 w5 sl5 => ⟨G5, A5, cs5, ds5, r5, e2.trans (e3.trans e5), a2.trans a5 l2, Nat.le_trans l2 l5, w5, sl5⟩
  · have ei : i = xs.length := by omega
    subst ei
    exact .inl ⟨it.stop _ H2 eG (Nat.le_refl _), go.nx _ _ _ _ _ _ ⟨xs, hI⟩ (e1.trans e2) (a1.trans a2 (Nat.le_refl _)) l2 w2 sl2⟩
/-- == of ints, the left read with effects -/
theorem pd_eqI {Ra : Cells → SV → Prop} {j : Int} (ha : PD X ds cs a Ra) (hb : ∀ cs1 x, Ra cs1 x → PV X ds cs1 b (.d (.int j))) (k : ∀ cs1 x, Ra cs1 x → ∃ i, x = .d (.int i) ∧ R cs1 (.d (.bool (decide (i = j))))) : PD X ds cs (.Compare a [.Eq] [b] pos) R :=
  pd_cmp op_eq ha (Rb := fun cs1 x => Is cs1 (.d (.int j))) hb fun cs1 x cs2 y r1 ⟨r2, r3⟩ _ => by
    obtain ⟨i, rfl, hR⟩ := k cs1 x r1
    subst r2 r3
    intro G A fr H v w Q W0 h1 h2 k
    cases h1; cases h2
    refine ⟨rfl, ?_⟩
    have e : decide (V.int i = V.int j) = decide (i = j) := by
      by_cases q : i = j
      · subst q; simp
      · rw [decide_eq_false q, decide_eq_false (fun z => q (V.int.inj z))]
    rw [e]
    exact k.here hR W0 (.bl _)
/-- + of ints with effects -/
theorem pd_addI {Ra : Cells → SV → Prop} {Rb : Cells → SV → Cells → SV → Prop} (ha : PD X ds cs a Ra) (hb : ∀ cs1 x, Ra cs1 x → PD X ds cs1 b (Rb cs1 x)) (k : ∀ cs1 x cs2 y, Ra cs1 x → Rb cs1 x cs2 y → ∃ i j, x = .d (.int i) ∧ y = .d (.int j) ∧ R cs2 (.d (.int (i + j)))) : PD X ds cs (.BinOp a .Add b pos) R :=
  pd_op op_add ha hb fun cs1 x cs2 y r1 r2 _ => by
    obtain ⟨i, j, rfl, rfl, hR⟩ := k cs1 x cs2 y r1 r2
    exact od_I0 rfl hR
end
end DL
set_option Elab.async false
set_option linter.all false
set_option maxRecDepth 100000
set_option maxHeartbeats 4000000
namespace DL
open PySem PySem.Spec PyProof.Rows L2
theorem pda_one {X : Cx} {e : Expr} {ds : Slots} {cs : Cells} {Ra : Cells → SV → Prop} (ha : PD X ds cs e Ra) (hs : starEach [e] X.env = (false, eval e X.env) :: starEach [] X.env := by rfl) : PDA X ds cs [e] (fun cs' ys => ∃ sv, ys = [sv] ∧ Ra cs' sv) :=
  pda_cons ha (Rs := fun cs1 sv => Is cs1 []) (fun cs1 sv _ => pda_nil ⟨rfl, rfl⟩) (fun cs1 sv cs2 xs h ⟨h1, h2⟩ => ⟨sv, by rw [h2], by rw [h1]; exact h⟩) hs
end DL
namespace K69
open PySem PySem.Spec PyProof.Rows L2 DL
abbrev s28 : Stmt := topS 28
theorem sc28 : FnScope ["box", "many", "most", "found", "turn", "weight", "twice"] ["box", "many", "most"] (defScope s28) := ⟨rfl, rfl, rfl, by decide +kernel, rfl, by decide +kernel, by decide +kernel⟩
/-- a weighted permutation -/
def wpD (p : Int × List Int) : PyData := .tuple [.int p.1, .tuple (p.2.map .int)]
def GoodP (n : Nat) (p : Int × List Int) : Prop := 1 ≤ p.1 ∧ p.2.Perm (rangeI n)
def S28 : DL.Spec := fun xs cs R => ∃ (n most : Nat) (c : Nat) (b : List PyData), xs = [.own 0, .d (.int n), .d (.int most)] ∧ cs = bx b ∧ BoxOk c b ∧ c ≤ 900000 ∧ 1 ≤ n ∧ n ≤ 6 ∧ most ≤ 50 ∧
  ∀ (ps : List (Int × List Int)) b', (∀ p ∈ ps, GoodP n p) → ps.length ≤ most → BoxOk (c + 1000) b' → R (bx b') (.d (.list (ps.map wpD)))
theorem lf_ints (ns : List Int) : Lf (.tuple (ns.map .int)) := .tup fun x hx => by
  obtain ⟨k, _, rfl⟩ := List.mem_map.mp hx
  exact .int _
theorem lf_wp (p : Int × List Int) : Lf (wpD p) := .tup fun x hx => by
  simp at hx
  rcases hx with rfl | rfl
  · exact .int _
  · exact lf_ints _
theorem clf_box {c : Nat} {b : List PyData} (h : BoxOk c b) : CLf (.lst b) := by
  obtain ⟨g, q, m, e, rfl, _⟩ := h
  intro x hx
  simp at hx
  rcases hx with rfl | rfl | rfl | rfl
  · exact .int _
  · exact .bl _
  · exact .int _
  · exact .int _
theorem clf_wps (ps : List (Int × List Int)) : CLf (.lst (ps.map wpD)) := fun x hx => by
  obtain ⟨p, _, rfl⟩ := List.mem_map.mp hx
  exact lf_wp p
theorem shaped_wps (ps : List (Int × List Int)) : SeqAt.shaped (.list (ps.map wpD)) = true :=
  shaped_mk (by
    rw [PyData.canLay0]
    refine lay_all fun p _ => ?_
    unfold wpD
    rw [PyData.canLay0, PyData.canLayAll0, PyData.canLayAll0, PyData.canLayAll0, PyData.canLay0, PyData.canLay0, lay_ints]; rfl) (by
    rw [PyData.depth]
    have := dep_all (f := wpD) (n := 2) (l := ps) fun p _ => by
      unfold wpD
      rw [PyData.depth, PyData.depthAll, PyData.depthAll, PyData.depthAll, PyData.depth, PyData.depth, dep_ints]; decide
    omega)
abbrev bf (b : List PyData) (ps : List (Int × List Int)) : Cells := [some (.lst b), some (.lst (ps.map wpD))]
def Wt (c : Nat) (ps : List (Int × List Int)) : Cells → SV → Prop := fun cs sv => ∃ b w, BoxOk c b ∧ 1 ≤ w ∧ cs = bf b ps ∧ sv = .d (.int w)
def Tk (c : Nat) (n : Int) (ps : List (Int × List Int)) : Cells → SV → Prop := fun cs sv => ∃ b r, BoxOk c b ∧ 0 ≤ r ∧ r < n ∧ cs = bf b ps ∧ sv = .d (.int r)
section
variable {P : Program} {w : World} {K : PySem.W.Frag} {mg : Str → Option Value} {base : Heap}
theorem ok28 (B : Bl mg) (D21 : Def K mg "_law_take" s21 ["box", "many"]) (F21 : FnOk P w K mg base CX0 1 D21.f D21.fd ["box", "many"] (spD K S21)) (D22 : Def K mg "_law_pick" s22 ["box", "items"]) (F22 : FnOk P w K mg base CX0 2 D22.f D22.fd ["box", "items"] (spD K S22))
    (D23 : Def K mg "_law_mixed" s23 ["box", "items"]) (F23 : FnOk P w K mg base CX0 2 D23.f D23.fd ["box", "items"] (spD K S23)) (D : Def K mg "_law_pairs" s28 ["box", "many", "most"]) : FnOk P w K mg base CX0 3 D.f D.fd ["box", "many", "most"] (spD K S28) := by
  refine fn_defT D.F sc28 (fun xs cs R ⟨_, _, _, _, e, _⟩ => by rw [e]; rfl) fun cdv A outer s H E xs cs R hr ⟨n, most, c, b, hx, hcs, hb, hc, n1, n2, hm, hR⟩ => ?_
  subst hcs hx
  have zl : (1000000 : Nat) ≤ sizeLine := by decide
  refine sd_asgD 3 (R := fun cs' sv => cs' = bf b [] ∧ sv = .own 1) (pd_lstO pva_nil fun cs1 xs ⟨e1, e2⟩ => ⟨[], e2, Nat.zero_le _, by rw [e1]; exact ⟨rfl, rfl⟩⟩) (fun cs' sv ⟨e1, e2⟩ => ?_) sc28.nd
  subst e1 e2
  refine sd_forE (Ri := fun cs' xs => ∃ b' m, BoxOk (c + 1) b' ∧ m ≤ most ∧ cs' = bf b' [] ∧ xs = rgD 0 m) (g := gName 4) (f := fName 4) (fun xs i ds' cs' => xs.length ≤ most ∧ ∃ b' ps a1 a2 a3, BoxOk (c + 1 + 12 * i) b' ∧ (∀ p ∈ ps, GoodP n p) ∧ ps.length = i ∧ cs' = bf b' ps ∧ ds' = [some (.own 0), some (.d (.int n)), some (.d (.int most)), some (.own 1), a1, a2, a3])
    (pdi_range B.range (pda_one (pd_take (m := 0) (n := (most : Int) + 1) (c := c) (b := b) (R := Tk (c + 1) ((most : Int) + 1) []) D21 F21 (hr.mono (by decide)) (pva_cons (pv_var 0) (pva_cons (pv_add (pv_var 2) pv_int) pva_nil)) rfl hb (by omega) ⟨by omega, by omega⟩ fun r b' r0 r1 hb' => ⟨b', r, hb', r0, r1, rfl, rfl⟩)) fun cs1 ys ⟨sv, h1, b', r, hb', r0, r1, h2, h3⟩ => ⟨r, by rw [h1, h3], r0, by omega, b', r.toNat, hb', by omega, h2, rfl⟩)
    (pg_name (i := 4) sc28.nd rfl (by first | exact Or.inl rfl | exact Or.inr rfl)) gd_name (fun cs1 xs ⟨b', m, hb', hm', e1, e2⟩ => ⟨by rw [e2, rgD_length]; exact hm', b', [], _, _, _, hb', fun p hp => (by cases hp), rfl, e1, rfl⟩) (fun xs i tv ds' cs' hx ⟨hxl, b', ps, a1, a2, a3, hb', hps, hl, e1, e2⟩ => ⟨_, rfl, ?_⟩) (fun xs ds' cs' ⟨hxl, b', ps, a1, a2, a3, hb', hps, hl, e1, e2⟩ => ?_) .never
  · subst e1 e2
    have hi : i < xs.length := (List.getElem?_eq_some_iff.mp hx).1
    have hck : c + 1 + 12 * i ≤ 950000 := by omega
    generalize hk : c + 1 + 12 * i = k at hb' hck
    -- the weight
    refine sd_asgD 5 (R := Wt (k + 3) ps) (pd_sub_ (Ra := fun cs' sv => ∃ b2 w0 w2, BoxOk (k + 2) b2 ∧ 1 ≤ w0 ∧ 1 ≤ w2 ∧ cs' = bf b2 ps ∧ sv = .d (.list [.int w0, .int 1, .int w2, .int 2])) (Rb := fun cs1 x => Tk (k + 3) 4 ps)
      (pd_lst (Ra := fun cs' xs => ∃ b2 w0 w2, BoxOk (k + 2) b2 ∧ 1 ≤ w0 ∧ 1 ≤ w2 ∧ cs' = bf b2 ps ∧ xs = [.d (.int w0), .d (.int 1), .d (.int w2), .d (.int 2)])
        (pda_cons (Ra := Wt (k + 1) ps) (Rs := fun cs1 x cs2 xs => ∃ b2 w2, BoxOk (k + 2) b2 ∧ 1 ≤ w2 ∧ cs2 = bf b2 ps ∧ xs = [.d (.int 1), .d (.int w2), .d (.int 2)])
          (pd_addI (Ra := Is _ (.d (.int 1))) (Rb := fun cs1 x => Tk (k + 1) 4 ps) pv_int (fun cs1 x ⟨h1, _⟩ => ?_) fun cs1 x cs2 y ⟨_, h1⟩ ⟨b2, r, hb2, r0, r1, h2, h3⟩ => ⟨1, r, h1, h3, b2, 1 + r, hb2, by omega, h2, rfl⟩)
          (fun cs1 x ⟨b1, w1, hb1, hw1, h1, h2⟩ => ?_) fun cs1 x cs2 xs ⟨b1, w1, hb1, hw1, h1, h2⟩ ⟨b2, w2, hb2, hw2, h3, h4⟩ => ⟨b2, w1, w2, hb2, hw1, hw2, h3, by rw [h2, h4]⟩)
        fun cs1 xs ⟨b2, w0, w2, hb2, hw0, hw2, h1, h2⟩ => ⟨[.int w0, .int 1, .int w2, .int 2], h2, Nat.le_trans (by decide : 4 ≤ 1000000) zl, b2, w0, w2, hb2, hw0, hw2, h1, rfl⟩)
      (fun cs1 x ⟨b2, w0, w2, hb2, hw0, hw2, h1, h2⟩ => ?_) fun cs1 x cs2 y ⟨b2, w0, w2, hb2, hw0, hw2, h1, h2⟩ ⟨b3, r, hb3, r0, r1, h3, h4⟩ _ => ?_) (fun cs' sv ⟨b3, wt, hb3, hwt, h1, h2⟩ => ?_) sc28.nd
    · subst h1
      exact pd_take (m := 0) (n := 4) (c := k) (b := b') D21 F21 (hr.mono (by decide)) (pva_cons (pv_var 0) (pva_cons pv_int pva_nil)) rfl hb' (by omega) ⟨by omega, by omega⟩ fun r b2 r0 r1 hb2 => ⟨b2, r, hb2, r0, r1, rfl, rfl⟩
    · subst h1
      refine pda_cons (Ra := Is (bf b1 ps) (.d (.int 1))) (Rs := fun cs1 x cs2 xs => ∃ b2 w2, BoxOk (k + 2) b2 ∧ 1 ≤ w2 ∧ cs2 = bf b2 ps ∧ xs = [.d (.int w2), .d (.int 2)]) pv_int (fun cs1 x ⟨h1, _⟩ => ?_) fun cs1 x cs2 xs ⟨_, h1⟩ ⟨b2, w2, hb2, hw2, h3, h4⟩ => ⟨b2, w2, hb2, hw2, h3, by rw [h1, h4]⟩
      subst h1
      refine pda_cons (Ra := Wt (k + 2) ps) (Rs := fun cs1 x => Is cs1 [.d (.int 2)]) (pd_addI (Ra := Is _ (.d (.int ((10 : Int) ^ (21 : Int).toNat)))) (Rb := fun cs1 x => Tk (k + 2) 1000 ps) (pv_pow pv_int pv_int ⟨by decide, by decide, by decide⟩) (fun cs1 x ⟨h1, _⟩ => ?_) fun cs1 x cs2 y ⟨_, h1⟩ ⟨b2, r, hb2, r0, r1, h2, h3⟩ => ⟨_, r, h1, h3, b2, _, hb2, ?_, h2, rfl⟩) (fun cs1 x _ => pva_cons pv_int pva_nil) fun cs1 x cs2 xs ⟨b2, w2, hb2, hw2, h3, h4⟩ ⟨h5, h6⟩ => ⟨b2, w2, hb2, hw2, h5.trans h3, by rw [h4, h6]⟩
      · subst h1
        exact pd_take (m := 0) (n := 1000) (c := k + 1) (b := b1) D21 F21 (hr.mono (by decide)) (pva_cons (pv_var 0) (pva_cons pv_int pva_nil)) rfl hb1 (by omega) ⟨by omega, by omega⟩ fun r b2 r0 r1 hb2 => ⟨b2, r, hb2, r0, r1, rfl, rfl⟩
      · have : (1 : Int) ≤ 10 ^ (21 : Int).toNat := by decide
        omega
    · subst h1
      exact pd_take (m := 0) (n := 4) (c := k + 2) (b := b2) D21 F21 (hr.mono (by decide)) (pva_cons (pv_var 0) (pva_cons pv_int pva_nil)) rfl hb2 (by omega) ⟨by omega, by omega⟩ fun r b2 r0 r1 hb2 => ⟨b2, r, hb2, r0, r1, rfl, rfl⟩
    · subst h2 h3 h4
      have hk4 : r = ((r.toNat : Nat) : Int) := by omega
      obtain ⟨wv, hwv, hw1⟩ : ∃ wv : Int, ([.int w0, .int 1, .int w2, .int 2] : List PyData)[r.toNat]? = some (.int wv) ∧ 1 ≤ wv := by
        have : r.toNat = 0 ∨ r.toNat = 1 ∨ r.toNat = 2 ∨ r.toNat = 3 := by omega
        rcases this with q | q | q | q <;> rw [q]
        · exact ⟨w0, rfl, hw0⟩
        · exact ⟨1, rfl, by omega⟩
        · exact ⟨w2, rfl, hw2⟩
        · exact ⟨2, rfl, by omega⟩
      rw [hk4]
      exact od_ix (atI_nat hwv) ⟨b3, wv, hb3, hw1, rfl, rfl⟩
    subst h1 h2
    have cl3 : ∀ {bb : List PyData} {kk : Nat}, BoxOk kk bb → ∀ (j : Nat) (x : Cell), (bf bb ps)[j]? = some (some x) → CLf x := fun {bb kk} hbb j x q => by
      match j with
      | 0 => simp at q; subst q; exact clf_box hbb
      | 1 => simp at q; subst q; exact clf_wps ps
      | j + 2 => simp at q
    -- twice
    refine sd_asgD 6 (R := fun cs' sv => ∃ b4 q, BoxOk (k + 4) b4 ∧ (q = true → ps ≠ []) ∧ cs' = bf b4 ps ∧ sv = .d (.bool q)) (pd_and (Ra := Is (bf b3 ps) (.d (.bool (!decide (ps = []))))) (pv_frz (ds' := [some (.own 0), some (.d (.int n)), some (.d (.int most)), some (.d (.list (ps.map wpD))), some (.d tv), some (.d (.int wt)), a3]) 1 (.lst (ps.map wpD)) rfl ⟨rfl, fun i sv q => ?_⟩ (PV.eq (pv_neD hr.units (pv_var 3) (pv_lst [] pva_nil rfl) (shaped_wps ps) shaped_nil) ?_) (.bl _) (cl3 hb3)) (fun cs1 x ⟨h1, h2⟩ => ⟨_, h2, fun _ => ⟨b3, false, hb3.mono (by omega), fun z => (by cases z), h1, rfl⟩⟩) fun cs1 ⟨h1, h2⟩ => pd_last (pd_eqI (Ra := Tk (k + 4) 4 ps) ?_ (fun cs1 x _ => pv_int) fun cs2 x ⟨b4, r, hb4, r0, r1, h3, h4⟩ => ⟨r, h4, b4, _, hb4, fun _ => ?_, h3, rfl⟩)) (fun cs' sv ⟨b4, q, hb4, hq, h1, h2⟩ => ?_) sc28.nd
    · match i with
      | 0 => exact .inl q
      | 1 => exact .inl q
      | 2 => exact .inl q
      | 3 => simp at q; exact .inr ⟨rfl, q.symm⟩
      | i + 4 => exact .inl q
    · cases ps with
      | nil => simp [PyData.eqv, PyData.eqvAll]
      | cons p ps => simp [PyData.eqv, PyData.eqvAll]
    · subst h1
      exact pd_take (m := 0) (n := 4) (c := k + 3) (b := b3) D21 F21 (hr.mono (by decide)) (pva_cons (pv_var 0) (pva_cons pv_int pva_nil)) rfl hb3 (by omega) ⟨by omega, by omega⟩ fun r b2 r0 r1 hb2 => ⟨b2, r, hb2, r0, r1, rfl, rfl⟩
    · injection h2 with z
      injection z with z
      have := z.symm
      simpa using this
    subst h1 h2
    -- the pair
    refine sd_expr (R := fun cs' sv => ∃ b5 ns, BoxOk (k + 12) b5 ∧ List.Perm ns (rangeI n) ∧ cs' = bf b5 (ps ++ [(wt, ns)])) (pd_append (m := 1) (Ra := fun cs' ys => ∃ sv, ys = [sv] ∧ ∃ b5 ns, BoxOk (k + 12) b5 ∧ List.Perm ns (rangeI n) ∧ cs' = bf b5 ps ∧ sv = .d (wpD (wt, ns))) (pv_var 3) (pda_one (pd_tup (Ra := fun cs' ys => ∃ b5 ns, BoxOk (k + 12) b5 ∧ List.Perm ns (rangeI n) ∧ cs' = bf b5 ps ∧ ys = [.d (.int wt), .d (.tuple (ns.map .int))])
      (pda_cons (Ra := Is _ (.d (.int wt))) (Rs := fun cs1 x cs' ys => ∃ sv, ys = [sv] ∧ ∃ b5 ns, BoxOk (k + 12) b5 ∧ List.Perm ns (rangeI n) ∧ cs' = bf b5 ps ∧ sv = .d (.tuple (ns.map .int))) (pv_var 5) (fun cs1 x ⟨h1, _⟩ => pda_one ?_) fun cs1 x cs2 xs ⟨_, h1⟩ ⟨sv, h2, b5, ns, hb5, hns, h3, h4⟩ => ⟨b5, ns, hb5, hns, h3, by rw [h1, h2, h4]⟩)
      fun cs1 xs ⟨b5, ns, hb5, hns, h1, h2⟩ => ⟨[.int wt, .tuple (ns.map .int)], h2, Nat.le_trans (by decide : 2 ≤ 1000000) zl, b5, ns, hb5, hns, h1, rfl⟩))
      (fun cs1 ys ⟨sv, h1, b5, ns, hb5, hns, h2, h3⟩ => ⟨wpD (wt, ns), ps.map wpD, by rw [h1, h3], by rw [h2]; rfl, by rw [List.length_map]; omega, b5, ns, hb5, hns, by rw [h2]; simp⟩) ⟨_, rfl⟩) fun cs' sv ⟨b5, ns, hb5, hns, h1⟩ => ?_
    · subst h1
      refine pd_if (Rc := Is (bf b4 ps) q) (pvt_val (pv_var 6)) (fun cs1 ⟨h1, h2⟩ => ?_) (fun cs1 ⟨h1, _⟩ => ?_)
      · subst h1
        have hne := hq h2.symm
        have hlp : 1 ≤ ps.length := List.length_pos_iff.mpr hne
        refine pd_frz (ds' := [some (.own 0), some (.d (.int n)), some (.d (.int most)), some (.d (.list (ps.map wpD))), some (.d tv), some (.d (.int wt)), some (.d (.bool q))]) (R' := fun cs' sv => ∃ b5 p, BoxOk (k + 5) b5 ∧ p ∈ ps ∧ cs' = [some (.lst b5), none] ∧ sv = .d (.tuple (p.2.map .int))) 1 (.lst (ps.map wpD)) rfl ⟨rfl, fun i sv q => ?_⟩ (pd_sub_ (Ra := fun cs' sv => ∃ b5 p, BoxOk (k + 5) b5 ∧ p ∈ ps ∧ cs' = [some (.lst b5), none] ∧ sv = .d (wpD p)) (Rb := fun cs1 x => Is cs1 (.d (.int 1)))
          (pd_pick (m := 0) (c := k + 4) (b := b4) (ys := ps.map wpD) D22 F22 (hr.mono (by decide)) (pva_cons (pv_var 0) (pva_cons (pv_var 3) pva_nil)) rfl hb4 (by omega) ⟨by rw [List.length_map]; exact hlp, by rw [List.length_map]; omega⟩ fun y b5 hy hb5 => by
            obtain ⟨p, hp, rfl⟩ := List.mem_map.mp hy
            exact ⟨b5, p, hb5, hp, rfl, rfl⟩)
          (fun cs1 x _ => pv_int) fun cs1 x cs2 y ⟨b5, p, hb5, hp, h1, h2⟩ ⟨h3, h4⟩ _ => ?_) fun cs' sv ⟨b5, p, hb5, hp, h1, h2⟩ => ⟨_, h2, lf_ints _, by rw [h1]; rfl, fun j x q => ?_, b5, p.2, hb5.mono (by omega), (hps p hp).2, by rw [h1]; rfl, rfl⟩
        · match i with
          | 0 => exact .inl q
          | 1 => exact .inl q
          | 2 => exact .inl q
          | 3 => simp at q; exact .inr ⟨rfl, q.symm⟩
          | i + 4 => exact .inl q
        · subst h2 h3 h4
          exact od_ixT (atI_nat (j := 1) rfl) ⟨b5, p, hb5, hp, h1, rfl⟩
        · rw [h1] at q
          match j with
          | 0 => simp at q; subst q; exact clf_box hb5
          | 1 => simp at q
          | j + 2 => simp at q
      · subst h1
        have hrl : (rgD 0 ((n : Nat) : Int).toNat).length = n := by rw [rgD_length]; omega
        refine pd_tupleL (Ra := fun cs' ys => ∃ sv, ys = [sv] ∧ ∃ b5 ns, BoxOk (k + 12) b5 ∧ List.Perm ns (rangeI n) ∧ cs' = bf b5 ps ∧ sv = .d (.list (ns.map .int))) B.tuple (pda_one (pd_mixed (m := 0) (c := k + 4) (b := b4) (ys := rgD 0 ((n : Nat) : Int).toNat) D23 F23 (hr.mono (by decide)) (pva_cons (pv_var 0) (pva_cons (pv_listRange B.list B.range (pv_var 1) ⟨by omega, by omega⟩) pva_nil)) rfl hb4 (by rw [hrl]; omega) (by rw [hrl]; omega) fun zs b5 hz hb5 => ?_)) fun cs1 ys ⟨sv, h1, b5, ns, hb5, hns, h2, h3⟩ => ⟨_, by rw [h1, h3], b5, ns, hb5, hns, h2, rfl⟩
        have e3 : rgD 0 ((n : Nat) : Int).toNat = (rangeI n).map .int := rgD_rangeI n
        rw [e3] at hz
        have e4 : zs = (intsOf zs).map .int := by
          unfold intsOf
          rw [List.map_map]
          conv => lhs; rw [← List.map_id zs]
          apply List.map_congr_left
          intro z hz2
          obtain ⟨y, _, rfl⟩ := List.mem_map.mp (hz.mem_iff.mp hz2)
          rfl
        have e5 : (intsOf zs).Perm (rangeI n) := by
          have := hz.map (fun | PyData.int i => i | _ => 0)
          have e6 : ((rangeI n).map PyData.int).map (fun | PyData.int i => i | _ => 0) = rangeI n := intsOf_map _
          rw [e6] at this
          exact this
        refine ⟨b5, intsOf zs, hb5.mono (by rw [hrl]; omega), e5, rfl, by rw [← e4]⟩
    · subst h1
      refine sd_nil ⟨hxl, b5, ps ++ [(wt, ns)], _, _, _, hb5.mono (by omega), fun p hp => ?_, by rw [List.length_append, hl]; rfl, rfl, rfl⟩
      rcases List.mem_append.mp hp with hp | hp
      · exact hps p hp
      · simp at hp
        subst hp
        exact ⟨hwt, hns⟩
  · subst e1 e2
    refine sd_freeze (ds' := [some (.own 0), some (.d (.int n)), some (.d (.int most)), some (.d (.list (ps.map wpD))), a1, a2, a3]) 1 (.lst (ps.map wpD)) rfl ⟨rfl, fun i sv q => ?_⟩ ?_
    · match i with
      | 0 => exact .inl q
      | 1 => exact .inl q
      | 2 => exact .inl q
      | 3 => simp at q; exact .inr ⟨rfl, q.symm⟩
      | i + 4 => exact .inl q
    refine sd_ret (PV.pd (pv_var 3) ?_)
    exact ⟨trivial, hR ps b' hps (by omega) (hb'.mono (by omega))⟩
end
end K69
set_option Elab.async false
set_option linter.all false
set_option maxRecDepth 100000
set_option maxHeartbeats 4000000
namespace DL
open PySem PySem.Spec PyProof.Rows L2
section
variable {X : Cx} {e a b : Expr} {es : List Expr} {ds : Slots} {cs : Cells} {pos : Pos} {R : Cells → SV → Prop}
theorem pda_pv {sv : SV} {Rs : Cells → List SV → Prop} (ha : PV X ds cs e sv) (hr : PDA X ds cs es Rs) (hs : starEach (e :: es) X.env = (false, eval e X.env) :: starEach es X.env := by rfl) : PDA X ds cs (e :: es) (fun cs' ys => ∃ xs, ys = sv :: xs ∧ Rs cs' xs) :=
  pda_cons ha (Rs := fun cs1 x cs2 xs => Rs cs2 xs) (fun cs1 x ⟨h, _⟩ => by subst h; exact hr) (fun cs1 x cs2 xs ⟨_, h1⟩ h2 => ⟨xs, by rw [h1], h2⟩) hs
theorem pda_pd {Ra : Cells → SV → Prop} {xs : List SV} (ha : PD X ds cs e Ra) (hr : ∀ cs1 x, Ra cs1 x → PVA X ds cs1 es xs) (hs : starEach (e :: es) X.env = (false, eval e X.env) :: starEach es X.env := by rfl) : PDA X ds cs (e :: es) (fun cs' ys => ∃ x, ys = x :: xs ∧ Ra cs' x) :=
  pda_cons ha (Rs := fun cs1 x => Is cs1 xs) hr (fun cs1 x cs2 ys h1 ⟨h2, h3⟩ => ⟨x, by rw [h3], by rw [h2]; exact h1⟩) hs
/-- a list of one's own + data: a new list of one's own -/
theorem pd_catO {Ra : Cells → SV → Prop} {ys : List PyData} (ha : PD X ds cs a Ra) (hb : ∀ cs1 x, Ra cs1 x → PV X ds cs1 b (.d (.list ys))) (k : ∀ cs1 x, Ra cs1 x → ∃ m xs, x = .own m ∧ cs1[m]? = some (some (.lst xs)) ∧ xs.length + ys.length ≤ sizeLine ∧ R (cs1 ++ [some (.lst (xs ++ ys))]) (.own cs1.length)) : PD X ds cs (.BinOp a .Add b pos) R :=
  pd_op op_cat ha (Rb := fun cs1 x => Is cs1 (.d (.list ys))) hb fun cs1 x cs2 y r1 ⟨r2, r3⟩ _ => by
    obtain ⟨m, xs, rfl, hm, hz, hR⟩ := k cs1 x r1
    subst r2 r3
    intro G A fr H v w Q W0 h1 h2 g
    obtain ⟨hml, p, l, hA, rfl⟩ := h1
    obtain ⟨q, vs, hq, hH, hd⟩ := W0.cell m _ hm
    rw [hA] at hq
    cases hq
    obtain ⟨a1, ws1, rfl, hg1, hall1⟩ := dt_lst h2
    exact ⟨p, a1, vs, ws1, rfl, rfl, hH, W0.gh _ _ hg1, by rw [hd.length, hall1.length]; exact hz, fun l hl => g.lstO hR W0 (hd.append hall1) hl⟩
end
end DL
namespace K69
open PySem PySem.Spec PyProof.Rows L2 DL
abbrev s29 : Stmt := topS 29
abbrev s30 : Stmt := topS 30
theorem sc29 : FnScope ["one", "other", "left", "right", "line"] ["one", "other"] (defScope s29) := ⟨rfl, rfl, rfl, by decide +kernel, rfl, by decide +kernel, by decide +kernel⟩
theorem sc30 : FnScope ["box", "many", "pairs", "strange", "most", "row", "values", "at", "weight", "places", "rest", "few", "others", "other", "k"] ["box", "many", "pairs", "strange"] (defScope s30) := ⟨rfl, rfl, rfl, by decide +kernel, rfl, by decide +kernel, by decide +kernel⟩
/-- two squares side by side -/
def besR (r1 r2 : List (List Int)) : List (List Int) := r1.map (fun r => r ++ List.replicate r2.length 0) ++ r2.map (fun r => List.replicate r1.length 0 ++ r)
def f29 : List SV → PyData → Prop := fun xs d => ∃ r1 r2, 1 ≤ r1.length ∧ r1.length ≤ 6 ∧ 1 ≤ r2.length ∧ r2.length ≤ 6 ∧ (∀ r ∈ r1, r.length ≤ 6) ∧ (∀ r ∈ r2, r.length ≤ 6) ∧ xs = [.d (sqD r1), .d (sqD r2)] ∧ d = sqD (besR r1 r2)
theorem rep_zero (k : Nat) : (List.replicate k [PyData.int 0]).flatten = (List.replicate k (0 : Int)).map .int := by
  induction k with
  | zero => rfl
  | succ k ih => rw [List.replicate_succ, List.replicate_succ, List.flatten_cons, ih]; rfl
def hBesL (k : Nat) : PyData → PyData
  | .tuple ys => .tuple (ys ++ (List.replicate k (0 : Int)).map .int)
  | _ => .none
def hBesR (k : Nat) : PyData → PyData
  | .tuple ys => .tuple ((List.replicate k (0 : Int)).map .int ++ ys)
  | _ => .none
section
variable {P : Program} {w : World} {K : PySem.W.Frag} {mg : Str → Option Value} {base : Heap}
theorem ok29 (B : Bl mg) (D : Def K mg "_law_beside" s29 ["one", "other"]) : FnOk P w K mg base CX0 1 D.f D.fd ["one", "other"] (spD K (PureS f29)) := by
  refine fn_def D.F sc29 (fun xs cs R ⟨_, _, d, ⟨_, _, _, _, _, _, _, _, e, _⟩, _⟩ => by rw [e]; rfl) fun cdv A outer s H E xs cs R hr ⟨hcs, _, d, ⟨r1, r2, l1, l2, l3, l4, q1, q2, hx, hd⟩, hR⟩ => ?_
  subst hcs hx hd
  have zl : (1000000 : Nat) ≤ sizeLine := by decide
  refine sd_tup2 2 3 (Ra := Is [] [.d (.int (r1.length : Nat)), .d (.int (r2.length : Nat))]) (pva_cons (PV.eq (pv_lenT B.len (pva_cons (pv_var 0) pva_nil)) (by rw [List.length_map])) (pva_cons (PV.eq (pv_lenT B.len (pva_cons (pv_var 1) pva_nil)) (by rw [List.length_map])) pva_nil)) (fun cs' xs ⟨e1, e2⟩ => ⟨_, _, e2, ?_⟩) ?_ sc29.nd
  rotate_left
  · first | rfl | exact sw_none rfl rfl rfl
  subst e1
  refine sd_ret (PV.pd (PV.eq (sv' := .d (sqD (besR r1 r2))) (pv_tupleL B.tuple (pva_cons (pv_catL
    (pv_lc (own := [("line", 4)]) (g := gName 4) (h := hBesL r2.length) (pvi_tup (pv_var 0)) (blkOk_by (by kernel_rfl)) (fun _ _ _ _ _ => pg_name (i := 4) sc29.nd rfl (Or.inl rfl)) gd_name (by decide) (fun x hx => ⟨_, rfl, fun s H C cl fp => ?_⟩) ?_ sc29.nd)
    (pv_lc (own := [("line", 4)]) (g := gName 4) (h := hBesR r1.length) (pvi_tup (pv_var 1)) (blkOk_by (by kernel_rfl)) (fun _ _ _ _ _ => pg_name (i := 4) sc29.nd rfl (Or.inl rfl)) gd_name (by decide) (fun x hx => ⟨_, rfl, fun s H C cl fp => ?_⟩) ?_ sc29.nd) ?_) pva_nil)) ?_) ?_)
  · obtain ⟨r, hr1, rfl⟩ := List.mem_map.mp hx
    refine PV.eq (pv_catT (xs := r.map .int) (pv_var 4) (pv_repT (pv_tup [.int 0] (pva_cons pv_int pva_nil) rfl) (pv_var 3) ⟨by omega, by omega⟩ (by simp) (by simp)) ?_) ?_
    · have := q1 r hr1
      simp
      omega
    · show SV.d (.tuple (r.map .int ++ (List.replicate (((r2.length : Nat) : Int)).toNat [PyData.int 0]).flatten)) = SV.d (.tuple (r.map .int ++ (List.replicate r2.length (0 : Int)).map .int))
      rw [Int.toNat_natCast, rep_zero]
  · rw [List.length_map]; omega
  · obtain ⟨r, hr1, rfl⟩ := List.mem_map.mp hx
    refine PV.eq (pv_catT (ys := r.map .int) (pv_repT (pv_tup [.int 0] (pva_cons pv_int pva_nil) rfl) (pv_var 2) ⟨by omega, by omega⟩ (by simp) (by simp)) (pv_var 4) ?_) ?_
    · have := q2 r hr1
      simp
      omega
    · show SV.d (.tuple ((List.replicate (((r1.length : Nat) : Int)).toNat [PyData.int 0]).flatten ++ r.map .int)) = SV.d (.tuple ((List.replicate r1.length (0 : Int)).map .int ++ r.map .int))
      rw [Int.toNat_natCast, rep_zero]
  · rw [List.length_map]; omega
  · simp; omega
  · unfold sqD besR
    rw [List.map_append, List.map_map, List.map_map, List.map_map, List.map_map]
    congr 3
    · apply List.map_congr_left
      intro r _
      simp [hBesL, rowD]
    · apply List.map_congr_left
      intro r _
      simp [hBesR, rowD]
  · exact hR
end
end K69
set_option Elab.async false
set_option linter.all false
set_option maxRecDepth 100000
set_option maxHeartbeats 4000000
namespace DL
open PySem PySem.Spec PyProof.Rows L2
theorem PDA.imp {X : Cx} {es : List Expr} {ds : Slots} {cs : Cells} {R R' : Cells → List SV → Prop} (h : PDA X ds cs es R) (k : ∀ cs' xs, R cs' xs → R' cs' xs) : PDA X ds cs es R' :=
  pa_imp h fun σ H Q ⟨G, A, fr, w, sl, g⟩ => ⟨G, A, fr, w, sl, fun vs xs cs' G2 A2 H2 r e2 a2 l2 w2 ok => g vs xs cs' G2 A2 H2 (k _ _ r) e2 a2 l2 w2 ok⟩
end DL
namespace K69
open PySem PySem.Spec PyProof.Rows L2 DL
/-- a weighted list of places, of n -/
structure WP (n : Nat) (p : Int × List Int) : Prop where
  w : 1 ≤ p.1
  len : p.2.length = n
def PsOk (xs : List PyData) : Prop := ∀ x ∈ xs, PairOk x
theorem pok_t {a : PyData} {ns : List Int} (h : ns.length ≤ 60) : PairOk (.tuple [a, .tuple (ns.map .int)]) := fun a' ps e => by
  cases e
  exact ⟨ns, rfl, h⟩
theorem pok_l {xs : List PyData} : PairOk (.list xs) := fun a ps e => by cases e
theorem pok_n : PairOk .none := fun a ps e => by cases e
theorem pok_tl {a : PyData} {xs : List PyData} : PairOk (.tuple [a, .list xs]) := fun a' ps e => by cases e
theorem pok_3 {a b c : PyData} : PairOk (.tuple [a, b, c]) := fun a' ps e => by cases e
theorem pok_1 {a : PyData} : PairOk (.tuple [a]) := fun a' ps e => by cases e
theorem vok_l {xs : List PyData} (h : PsOk xs) : ValOk (.list xs) := fun ys hy x hx => by
  rcases hy with e | e <;> cases e
  exact h x hx
theorem vok_t {xs : List PyData} (h : PsOk xs) : ValOk (.tuple xs) := fun ys hy x hx => by
  rcases hy with e | e <;> cases e
  exact h x hx
theorem vok_n : ValOk .none := fun ys hy x hx => by rcases hy with e | e <;> cases e
theorem ps_app {xs ys : List PyData} (h : PsOk xs) (k : PsOk ys) : PsOk (xs ++ ys) := fun x hx => by
  rcases List.mem_append.mp hx with hx | hx
  · exact h x hx
  · exact k x hx
theorem ps_nil : PsOk [] := fun x hx => by cases hx
theorem ps_cons {x : PyData} {xs : List PyData} (h : PairOk x) (k : PsOk xs) : PsOk (x :: xs) := fun y hy => by
  rcases List.mem_cons.mp hy with rfl | hy
  · exact h
  · exact k y hy
theorem ps_rep {x : PyData} (h : PairOk x) (k : Nat) : PsOk (List.replicate k [x]).flatten := fun y hy => by
  obtain ⟨l, hl, hy⟩ := List.mem_flatten.mp hy
  rw [(List.mem_replicate.mp hl).2] at hy
  simp at hy
  subst hy; exact h
theorem ps_wps {ps : List (Int × List Int)} (h : ∀ p ∈ ps, p.2.length ≤ 60) : PsOk (ps.map wpD) := fun x hx => by
  obtain ⟨p, hp, rfl⟩ := List.mem_map.mp hx
  exact pok_t (h p hp)
def AllV (vs : List PyData) : Prop := ∀ v ∈ vs, ValOk v
theorem av_app {xs ys : List PyData} (h : AllV xs) (k : AllV ys) : AllV (xs ++ ys) := fun x hx => by
  rcases List.mem_append.mp hx with hx | hx
  · exact h x hx
  · exact k x hx
theorem av_nil : AllV [] := fun x hx => by cases hx
theorem av_cons {x : PyData} {xs : List PyData} (h : ValOk x) (k : AllV xs) : AllV (x :: xs) := fun y hy => by
  rcases List.mem_cons.mp hy with rfl | hy
  · exact h
  · exact k y hy
def S30 : DL.Spec := fun xs cs R => ∃ (n : Nat) (ps qs : List (Int × List Int)) (c : Nat) (b : List PyData), xs = [.own 0, .d (.int n), .d (.list (ps.map wpD)), .d (.list (qs.map wpD))] ∧ cs = bx b ∧ BoxOk c b ∧ c ≤ 900000 ∧ 1 ≤ n ∧ n ≤ 6 ∧ (∀ p ∈ ps, WP n p) ∧ (∀ q ∈ qs, q.2.length ≤ 60) ∧ ps.length ≤ 50 ∧ qs.length ≤ 50 ∧
  ∀ vs b', AllV vs → vs.length ≤ 100 → BoxOk (c + 1000) b' → R (bx b') (.d (.list vs))
/-- values stands in the cell m, the box in 0 -/
structure Vs (m : Nat) (vs : List PyData) (b : List PyData) (cs : Cells) : Prop where
  pos : 0 < m
  box : cs[0]? = some (some (.lst b))
  at_ : cs[m]? = some (some (.lst vs))
theorem Vs.app {m : Nat} {vs b vs' : List PyData} {cs : Cells} (h : Vs m vs b cs) : Vs cs.length vs' b (cs ++ [some (.lst vs')]) := by
  have hl : 0 < cs.length := (List.getElem?_eq_some_iff.mp h.box).1
  exact ⟨hl, by rw [List.getElem?_append_left hl]; exact h.box, by simp⟩
theorem Vs.set {m : Nat} {vs b vs' : List PyData} {cs : Cells} (h : Vs m vs b cs) : Vs m vs' b (cs.set m (some (.lst vs'))) := by
  have hl : m < cs.length := (List.getElem?_eq_some_iff.mp h.at_).1
  exact ⟨h.pos, by rw [List.getElem?_set_ne (Nat.ne_of_gt h.pos)]; exact h.box, List.getElem?_set_self hl⟩
theorem Vs.setB {m : Nat} {vs b b' : List PyData} {cs : Cells} (h : Vs m vs b cs) : Vs m vs b' (cs.set 0 (some (.lst b'))) := by
  have hl : 0 < cs.length := (List.getElem?_eq_some_iff.mp h.box).1
  exact ⟨h.pos, List.getElem?_set_self hl, by rw [List.getElem?_set_ne (Nat.ne_of_lt h.pos)]; exact h.at_⟩
theorem Vs.fin {m : Nat} {vs b : List PyData} {cs : Cells} (h : Vs m vs b cs) : (cs.set m none).take 1 = bx b := by
  have hl : 0 < cs.length := (List.getElem?_eq_some_iff.mp h.box).1
  have hb := h.box
  have hp := h.pos
  match cs, m, hl, hp with
  | c :: cs, m + 1, _, _ =>
    simp at hb
    simp [hb]
theorem cut_len {α : Type} (xs : List α) (lo hi : Option Int) : (DL.cutD xs lo hi).length ≤ xs.length := by
  unfold DL.cutD
  rw [List.length_take, List.length_drop]; omega
theorem cut_mem {α : Type} {xs : List α} {lo hi : Option Int} {x : α} (h : x ∈ DL.cutD xs lo hi) : x ∈ xs := by
  unfold DL.cutD at h
  exact List.mem_of_mem_drop (List.mem_of_mem_take h)
theorem cut_map {α β : Type} (f : α → β) (xs : List α) (lo hi : Option Int) : DL.cutD (xs.map f) lo hi = (DL.cutD xs lo hi).map f := by
  unfold DL.cutD
  rw [List.length_map, List.map_take, List.map_drop]
theorem cut_one {y : Int} {ys : List Int} : DL.cutD ((y :: ys).map PyData.int) none (some 1) ≠ [] := by
  rw [List.map_cons]
  unfold DL.cutD HT.sIx
  simp
theorem cut_one_len {α : Type} (xs : List α) : (DL.cutD xs none (some 1)).length ≤ 1 := by
  unfold DL.cutD HT.sIx
  simp
  omega
def hSub (n : Nat) : PyData → PyData
  | .int k => .int (k - (n : Int))
  | _ => .none
section
variable {P : Program} {w : World} {K : PySem.W.Frag} {mg : Str → Option Value} {base : Heap}
theorem ok30 (B : Bl mg) (D21 : Def K mg "_law_take" s21 ["box", "many"]) (F21 : FnOk P w K mg base CX0 1 D21.f D21.fd ["box", "many"] (spD K S21)) (D23 : Def K mg "_law_mixed" s23 ["box", "items"]) (F23 : FnOk P w K mg base CX0 2 D23.f D23.fd ["box", "items"] (spD K S23))
    (D : Def K mg "_law_values" s30 ["box", "many", "pairs", "strange"]) : FnOk P w K mg base CX0 3 D.f D.fd ["box", "many", "pairs", "strange"] (spD K S30) := by
  refine fn_defT D.F sc30 (fun xs cs R ⟨_, _, _, _, _, e, _⟩ => by rw [e]; rfl) fun cdv A outer s H E xs cs R hr ⟨n, ps, qs, c, b, hx, hcs, hb, hc, n1, n2, hps, hqs, hpl, hql, hR⟩ => ?_
  subst hcs hx
  have zl : (1000000 : Nat) ≤ sizeLine := by decide
  have hlt : ∀ {k : Nat}, k ≤ 1000000 → k ≤ sizeLine := fun h => Nat.le_trans h zl
  have okp : ∀ p ∈ ps, p.2.length ≤ 60 := fun p hp => by have := (hps p hp).len; omega
  have okr : PsOk (ps.map wpD) := ps_wps okp
  have hrn : (rangeI n).length = n := by simp [rangeI]
  have hnm : ((n : Int) - 1) * ((n : Int) - 1) ≤ 25 ∧ 0 ≤ ((n : Int) - 1) * ((n : Int) - 1) := by
    have : (n : Int) - 1 = ((n - 1 : Nat) : Int) := by omega
    rw [this]
    have h2 : (n - 1) * (n - 1) ≤ 5 * 5 := Nat.mul_le_mul (by omega) (by omega)
    constructor
    · have : (((n - 1) * (n - 1) : Nat) : Int) ≤ 25 := by omega
      simpa using this
    · have : (0 : Int) ≤ (((n - 1) * (n - 1) : Nat) : Int) := by omega
      simpa using this
  generalize hmost : ((n : Int) - 1) * ((n : Int) - 1) + 1 = most
  have hm1 : 1 ≤ most ∧ most ≤ 26 := by omega
  refine sd_par 4 5 (Ra := Is (bx b) [.d (.int most), .d (.list (ps.map wpD))]) (pva_cons (PV.eq (pv_add (pv_mul (pv_sub (pv_var 1) pv_int) (pv_sub (pv_var 1) pv_int) (.inl (by omega))) pv_int) (by rw [hmost])) (pva_cons (pv_listL B.list (pva_cons (pv_var 2) pva_nil)) pva_nil)) (fun cs' xs ⟨e1, e2⟩ => ⟨_, _, e2, ?_⟩) (by first | rfl | exact sw_par rfl rfl rfl) sc30.nd
  subst e1
  have hrl : (ps.map wpD).length ≤ 50 := by rw [List.length_map]; exact hpl
  refine sd_asgD 6 (R := fun cs' sv => ∃ b1 vs, BoxOk (c + 100) b1 ∧ AllV vs ∧ vs.length = 8 ∧ cs' = [some (.lst b1), some (.lst vs)] ∧ sv = .own 1)
    (pd_lstO (pda_pv (pv_var 5) (pda_pv (pv_tupleL B.tuple (pva_cons (pv_var 5) pva_nil)) (pda_pd (Ra := fun cs' sv => ∃ b1 zs, BoxOk (c + 100) b1 ∧ List.Perm zs (ps.map wpD) ∧ cs' = bx b1 ∧ sv = .d (.list zs))
      (pd_mixed (m := 0) (c := c) (b := b) (ys := ps.map wpD) D23 F23 (hr.mono (by decide)) (pva_cons (pv_var 0) (pva_cons (pv_var 5) pva_nil)) rfl hb (by omega) (by omega) fun zs b1 hz hb1 => ⟨b1, zs, hb1.mono (by omega), hz, rfl, rfl⟩)
      (fun cs1 x _ => pva_cons (pv_var 3) (pva_cons pv_non (pva_cons (pv_lst [] pva_nil rfl) (pva_cons (pv_catL (pv_var 5) (pv_lst [.tuple [.int 0, .tuple ((rangeI n).map .int)]] (pva_cons (pv_tup [.int 0, .tuple ((rangeI n).map .int)] (pva_cons pv_int (pva_cons (PV.eq (pv_tupleRange B.tuple B.range (pv_var 1) ⟨by omega, by omega⟩) (by rw [← rgD_rangeI]; rfl)) pva_nil)) rfl (hlt (by simp))) pva_nil) rfl (hlt (by simp))) (hlt (by simp; omega)))
        (pva_cons (pv_catL (pv_var 5) (pv_lst [.tuple [.int 1, .tuple ((rangeI n).map .int)]] (pva_cons (pv_tup [.int 1, .tuple ((rangeI n).map .int)] (pva_cons pv_int (pva_cons (PV.eq (pv_tupleRange B.tuple B.range (pv_var 1) ⟨by omega, by omega⟩) (by rw [← rgD_rangeI]; rfl)) pva_nil)) rfl (hlt (by simp))) pva_nil) rfl (hlt (by simp))) (hlt (by simp; omega))) pva_nil)))))))) fun cs1 ys hh => ?_) (fun cs' sv ⟨b1, vs, hb1, hvs, hvl, h1, h2⟩ => ?_) sc30.nd
  · obtain ⟨x1, h1, x2, h2, x3, h3, b1, zs, hb1, hz, h4, h5⟩ := hh
    subst h1 h2 h3 h4 h5
    refine ⟨[.list (ps.map wpD), .tuple (ps.map wpD), .list zs, .list (qs.map wpD), .none, .list [], .list (ps.map wpD ++ [.tuple [.int 0, .tuple ((rangeI n).map .int)]]), .list (ps.map wpD ++ [.tuple [.int 1, .tuple ((rangeI n).map .int)]])], rfl, hlt (by simp), b1, _, hb1, ?_, rfl, rfl, rfl⟩
    have okz : PsOk zs := fun x hx => okr x (hz.mem_iff.mp hx)
    have okn : ∀ i : Int, PsOk [PyData.tuple [.int i, .tuple ((rangeI n).map .int)]] := fun i => ps_cons (pok_t (by omega)) ps_nil
    exact av_cons (vok_l okr) (av_cons (vok_t okr) (av_cons (vok_l okz) (av_cons (vok_l (ps_wps hqs)) (av_cons vok_n (av_cons (vok_l ps_nil) (av_cons (vok_l (ps_app okr (okn 0))) (av_cons (vok_l (ps_app okr (okn 1))) av_nil)))))))
  subst h1 h2
  refine sd_if (p := !decide (ps = [])) (M := fun ds' cs' => ∃ m vs b2 a7 a8 a9 a10 a11 a12 a13 a14, BoxOk (c + 1000) b2 ∧ AllV vs ∧ vs.length ≤ 100 ∧ Vs m vs b2 cs' ∧ ds' = [some (.own 0), some (.d (.int n)), some (.d (.list (ps.map wpD))), some (.d (.list (qs.map wpD))), some (.d (.int most)), some (.d (.list (ps.map wpD))), some (.own m), a7, a8, a9, a10, a11, a12, a13, a14]) (PVT.eq (pvt_neD hr.units (pv_var 5) (pv_lst [] pva_nil rfl) (shaped_wps ps) shaped_nil) ?_) (fun hne => ?_) (fun _ => ?_) fun ds' cs' ⟨m, vs, b2, a7, a8, a9, a10, a11, a12, a13, a14, hb2, hvs2, hvl2, hV, e1⟩ => ?_
  · cases ps with
    | nil => simp [PyData.eqv, PyData.eqvAll]
    | cons p ps => simp [PyData.eqv, PyData.eqvAll]
  · have hne' : ps ≠ [] := by simpa using hne
    have hlp : 1 ≤ ps.length := List.length_pos_iff.mpr hne'
    refine sd_asgD 7 (R := fun cs' sv => ∃ b2 r, BoxOk (c + 101) b2 ∧ 0 ≤ r ∧ r < (ps.length : Int) ∧ cs' = [some (.lst b2), some (.lst vs)] ∧ sv = .d (.int r)) (pd_take (m := 0) (n := (ps.length : Nat)) (c := c + 100) (b := b1) D21 F21 (hr.mono (by decide)) (pva_cons (pv_var 0) (pva_cons (PV.eq (pv_lenL B.len (pva_cons (pv_var 5) pva_nil)) (by rw [List.length_map])) pva_nil)) rfl hb1 (by omega) ⟨by omega, by omega⟩ fun r b2 r0 r1 hb2 => ⟨b2, r, hb2, r0, r1, rfl, rfl⟩) (fun cs' sv ⟨b2, r, hb2, r0, r1, h1, h2⟩ => ?_) sc30.nd
    subst h1 h2
    have hrn2 : r.toNat < ps.length := by omega
    obtain ⟨p, hp⟩ : ∃ p, ps[r.toNat]? = some p := ⟨ps[r.toNat], by simp [hrn2]⟩
    have hpm := List.mem_of_getElem? hp
    have hpw := (hps p hpm).w
    have hpl2 := (hps p hpm).len
    have hrk : r = ((r.toNat : Nat) : Int) := by omega
    refine sd_unp 8 9 (d1 := .int p.1) (d2 := .tuple (p.2.map .int)) (pv_ixL (pv_var 5) (pv_var 7) (by rw [hrk]; exact atI_nat (by rw [List.getElem?_map, hp]; rfl))) ?_ sc30.nd
    refine sd_asg 10 (sv := .d (.list (DL.cutD (ps.map wpD) none (some r) ++ DL.cutD (ps.map wpD) (some (r + 1)) none))) (pv_catL (pv_sliceL (ol := none) (oh := some r) (pv_var 5) trivial (pv_var 7)) (pv_sliceL (ol := some (r + 1)) (oh := none) (pv_var 5) (pv_add (pv_var 7) pv_int) trivial) ?_) ?_ sc30.nd
    · have h1 := cut_len (ps.map wpD) none (some r)
      have h2 := cut_len (ps.map wpD) (some (r + 1)) none
      exact hlt (by omega)
    have hro : PsOk (DL.cutD (ps.map wpD) none (some r) ++ DL.cutD (ps.map wpD) (some (r + 1)) none) := ps_app (fun x hx => okr x (cut_mem hx)) (fun x hx => okr x (cut_mem hx))
    have hrl2 : (DL.cutD (ps.map wpD) none (some r) ++ DL.cutD (ps.map wpD) (some (r + 1)) none).length ≤ 100 := by
      have h1 := cut_len (ps.map wpD) none (some r)
      have h2 := cut_len (ps.map wpD) (some (r + 1)) none
      rw [List.length_append]; omega
    generalize (DL.cutD (ps.map wpD) none (some r) ++ DL.cutD (ps.map wpD) (some (r + 1)) none) = rl at hro hrl2
    have okq : ∀ a : PyData, PairOk (.tuple [a, .tuple (p.2.map .int)]) := fun a => pok_t (by omega)
    -- pieces
    refine sd_if (p := decide (1 < p.1)) (M := fun ds' cs' => ∃ m vs', AllV vs' ∧ vs'.length ≤ 10 ∧ Vs m vs' b2 cs' ∧ ds' = [some (.own 0), some (.d (.int n)), some (.d (.list (ps.map wpD))), some (.d (.list (qs.map wpD))), some (.d (.int most)), some (.d (.list (ps.map wpD))), some (.own m), some (.d (.int r)), some (.d (.int p.1)), some (.d (.tuple (p.2.map .int))), some (.d (.list rl)), none, none, none, none]) (pvt_gt (pv_var 8) pv_int) (fun _ => ?_) (fun _ => sd_nil ⟨1, vs, hvs, by omega, ⟨by decide, rfl, rfl⟩, rfl⟩) fun ds' cs' ⟨m, vs', hvs', hvl', hV, e1⟩ => ?_
    · refine sd_asgD 6 (R := fun cs' sv => ∃ m vs', AllV vs' ∧ vs'.length ≤ 10 ∧ Vs m vs' b2 cs' ∧ sv = .own m) (pd_catO (Ra := Is _ (.own 1)) (ys := [.list (rl ++ [.tuple [.int 1, .tuple (p.2.map .int)], .tuple [.int (p.1 - 1), .tuple (p.2.map .int)]]), .list (([.tuple [.int (p.1 - 1), .tuple (p.2.map .int)]] ++ rl) ++ [.tuple [.int 1, .tuple (p.2.map .int)]])]) (pv_var 6)
        (fun cs1 x ⟨h1, _⟩ => ?_) fun cs1 x hh => ?_) (fun cs' sv ⟨m, vs', h1, h2, h3, h4⟩ => ?_) sc30.nd
      · subst h1
        exact pv_lst _ (pva_cons (pv_catL (pv_var 10) (pv_lst _ (pva_cons (pv_tup [.int 1, .tuple (p.2.map .int)] (pva_cons pv_int (pva_cons (pv_var 9) pva_nil)) rfl (hlt (by simp))) (pva_cons (pv_tup [.int (p.1 - 1), .tuple (p.2.map .int)] (pva_cons (pv_sub (pv_var 8) pv_int) (pva_cons (pv_var 9) pva_nil)) rfl (hlt (by simp))) pva_nil)) rfl (hlt (by simp))) (hlt (by simp; omega))) (pva_cons (pv_catL (pv_catL (pv_lst _ (pva_cons (pv_tup [.int (p.1 - 1), .tuple (p.2.map .int)] (pva_cons (pv_sub (pv_var 8) pv_int) (pva_cons (pv_var 9) pva_nil)) rfl (hlt (by simp))) pva_nil) rfl (hlt (by simp))) (pv_var 10) (hlt (by simp; omega))) (pv_lst _ (pva_cons (pv_tup [.int 1, .tuple (p.2.map .int)] (pva_cons pv_int (pva_cons (pv_var 9) pva_nil)) rfl (hlt (by simp))) pva_nil) rfl (hlt (by simp))) (hlt (by simp; omega))) pva_nil)) rfl (hlt (by simp))
      · obtain ⟨h1, h2⟩ := hh
        subst h1 h2
        exact ⟨1, vs, rfl, rfl, hlt (by simp; omega), _, _, av_app hvs (av_cons (vok_l (ps_app hro (ps_cons (okq _) (ps_cons (okq _) ps_nil)))) (av_cons (vok_l (ps_app (ps_app (ps_cons (okq _) ps_nil) hro) (ps_cons (okq _) ps_nil))) av_nil)), by simp; omega, (⟨by decide, rfl, rfl⟩ : Vs 1 vs b2 [some (.lst b2), some (.lst vs)]).app, rfl⟩
      · subst h4
        exact sd_nil ⟨m, vs', h1, h2, h3, rfl⟩
    subst e1
    -- few
    refine sd_for (xs := [.int (most - (rl.length : Nat)), .int (most - (rl.length : Nat) + 1)]) (g := gName 11) (f := fName 11) (fun i ds' cs' => ∃ m vs' a11, AllV vs' ∧ vs'.length ≤ 10 + i ∧ Vs m vs' b2 cs' ∧ ds' = [some (.own 0), some (.d (.int n)), some (.d (.list (ps.map wpD))), some (.d (.list (qs.map wpD))), some (.d (.int most)), some (.d (.list (ps.map wpD))), some (.own m), some (.d (.int r)), some (.d (.int p.1)), some (.d (.tuple (p.2.map .int))), some (.d (.list rl)), a11, none, none, none])
      (pvi_list (pv_lst _ (pva_cons (pv_sub (pv_var 4) (pv_lenL B.len (pva_cons (pv_var 10) pva_nil))) (pva_cons (pv_add (pv_sub (pv_var 4) (pv_lenL B.len (pva_cons (pv_var 10) pva_nil))) pv_int) pva_nil)) rfl (hlt (by simp)))) (pg_name (i := 11) sc30.nd rfl (by first | exact Or.inl rfl | exact Or.inr rfl)) gd_name ⟨m, vs', none, hvs', by omega, hV, rfl⟩ (fun i x ds' cs' hx ⟨m, vs', a11, hvs', hvl', hV, e1⟩ => ⟨_, rfl, ?_⟩) (fun ds' cs' ⟨m, vs', a11, hvs', hvl', hV, e1⟩ => ?_) .never
    · subst e1
      have hi2 : i < 2 := by
        have := (List.getElem?_eq_some_iff.mp hx).1
        simpa using this
      obtain ⟨fw, rfl, hfw⟩ : ∃ fw : Int, x = .int fw ∧ fw ≤ 27 := by
        match i with
        | 0 => simp at hx; exact ⟨_, hx.symm, by omega⟩
        | 1 => simp at hx; exact ⟨_, hx.symm, by omega⟩
        | i + 2 => simp at hx
      refine sd_if (p := decide (1 < fw) && decide (fw ≤ p.1)) (M := fun ds' cs' => ∃ m vs' a11, AllV vs' ∧ vs'.length ≤ 10 + (i + 1) ∧ Vs m vs' b2 cs' ∧ ds' = [some (.own 0), some (.d (.int n)), some (.d (.list (ps.map wpD))), some (.d (.list (qs.map wpD))), some (.d (.int most)), some (.d (.list (ps.map wpD))), some (.own m), some (.d (.int r)), some (.d (.int p.1)), some (.d (.tuple (p.2.map .int))), some (.d (.list rl)), a11, none, none, none]) (pvt_chain op_lt op_le pv_int (pv_var 11) (fun _ => pv_var 8) (od_I0 rfl ⟨rfl, rfl⟩) fun _ => od_I0 rfl ⟨rfl, rfl⟩) (fun hp2 => ?_) (fun _ => sd_nil ⟨m, vs', _, hvs', by omega, hV, rfl⟩) fun ds' cs' h => sd_nil h
      rw [Bool.and_eq_true] at hp2
      have hf1 := of_decide_eq_true hp2.1
      have hf2 := of_decide_eq_true hp2.2
      have hfl : (List.replicate (fw - 1).toNat [PyData.tuple [.int 1, .tuple (p.2.map .int)]]).flatten.length ≤ 30 := by
        rw [PyProof.Rows.lm_len_rep_flat]; simp; omega
      refine sd_expr (R := fun cs2 sv => ∃ v, ValOk v ∧ cs2 = cs'.set m (some (.lst (vs' ++ [v])))) (pd_append (m := m) (Ra := fun cs2 ys => ∃ v, ValOk v ∧ cs2 = cs' ∧ ys = [.d v]) (pv_var 6) (PDA.imp (pva_cons (pv_catL (pv_catL (pv_var 10) (pv_repL (pv_lst [.tuple [.int 1, .tuple (p.2.map .int)]] (pva_cons (pv_tup [.int 1, .tuple (p.2.map .int)] (pva_cons pv_int (pva_cons (pv_var 9) pva_nil)) rfl (hlt (by simp))) pva_nil) rfl (hlt (by simp))) (pv_sub (pv_var 11) pv_int) ⟨by omega, by omega⟩ (hlt (by simp; omega))) (hlt (by omega)))
        (pv_lst [.tuple [.int (p.1 - fw + 1), .tuple (p.2.map .int)]] (pva_cons (pv_tup [.int (p.1 - fw + 1), .tuple (p.2.map .int)] (pva_cons (pv_add (pv_sub (pv_var 8) (pv_var 11)) pv_int) (pva_cons (pv_var 9) pva_nil)) rfl (hlt (by simp))) pva_nil) rfl (hlt (by simp))) (hlt (by have h9 := hfl; rw [List.length_append, List.length_singleton]; omega))) pva_nil) fun cs2 ys hh => ?_) (fun cs2 ys ⟨v, hv, h1, h2⟩ => ⟨v, vs', h2, by rw [h1]; exact hV.at_, by omega, v, hv, by rw [h1]⟩) ⟨_, hV.at_⟩) fun cs2 sv ⟨v, hv, h1⟩ => ?_
      · exact ⟨_, vok_l (ps_app (ps_app hro (ps_rep (okq _) _)) (ps_cons (okq _) ps_nil)), hh.1, hh.2⟩
      · subst h1
        exact sd_nil ⟨m, vs' ++ [v], _, av_app hvs' (av_cons hv av_nil), by rw [List.length_append, List.length_singleton]; omega, hV.set, rfl⟩
    subst e1
    have hcut1 : (DL.cutD (p.2.map PyData.int) none (some 1)).length ≤ 1000 := by
      have := cut_len (p.2.map PyData.int) none (some 1)
      rw [List.length_map] at this; omega
    have hcut2 : DL.cutD (p.2.map PyData.int) none (some 1) ≠ [] := by
      have hl : 1 ≤ p.2.length := by omega
      match hq : p.2, hl with
      | y :: ys, _ => exact cut_one
    obtain ⟨c1, hc1, hc2⟩ : ∃ c1 : List Int, (List.replicate ((n : Int)).toNat (DL.cutD (p.2.map PyData.int) none (some 1))).flatten = c1.map .int ∧ c1.length ≤ 60 := by
      refine ⟨(List.replicate n (DL.cutD p.2 none (some 1))).flatten, ?_, ?_⟩
      · rw [Int.toNat_natCast, cut_map, List.map_flatten, List.map_replicate]
      · rw [PyProof.Rows.lm_len_rep_flat]
        have := cut_one_len p.2
        have : n * (DL.cutD p.2 none (some 1)).length ≤ 6 * 1 := Nat.mul_le_mul n2 this
        omega
    refine sd_asg 12 (sv := .d (.list [.tuple [.int (p.1 + 1), .tuple (p.2.map .int)], .tuple [.bool true, .tuple (p.2.map .int)], .tuple [.int p.1, .list (p.2.map .int)], .list [.int p.1, .tuple (p.2.map .int)], .tuple [.int p.1, .tuple (p.2.map .int), .int 1], .tuple [.int p.1], .tuple [.int p.1, .tuple (c1.map .int)]]))
      (pv_lst _ (pva_cons (pv_tup [.int (p.1 + 1), .tuple (p.2.map .int)] (pva_cons (pv_add (pv_var 8) pv_int) (pva_cons (pv_var 9) pva_nil)) rfl (hlt (by simp))) (pva_cons (pv_tup [.bool true, .tuple (p.2.map .int)] (pva_cons pv_bl (pva_cons (pv_var 9) pva_nil)) rfl (hlt (by simp))) (pva_cons (pv_tup [.int p.1, .list (p.2.map .int)] (pva_cons (pv_var 8) (pva_cons (pv_listT B.list (pva_cons (pv_var 9) pva_nil)) pva_nil)) rfl (hlt (by simp)))
        (pva_cons (pv_lst [.int p.1, .tuple (p.2.map .int)] (pva_cons (pv_var 8) (pva_cons (pv_var 9) pva_nil)) rfl (hlt (by simp))) (pva_cons (pv_tup [.int p.1, .tuple (p.2.map .int), .int 1] (pva_cons (pv_var 8) (pva_cons (pv_var 9) (pva_cons pv_int pva_nil))) rfl (hlt (by simp))) (pva_cons (pv_tup [.int p.1] (pva_cons (pv_var 8) pva_nil) rfl (hlt (by simp)))
        (pva_cons (pv_tup [.int p.1, .tuple (c1.map .int)] (pva_cons (pv_var 8) (pva_cons (PV.eq (pv_repT (pv_sliceT (ol := none) (oh := some 1) (pv_var 9) trivial pv_int) (pv_var 1) ⟨by omega, by omega⟩ hcut2 hcut1) (by rw [hc1])) pva_nil)) rfl (hlt (by simp))) pva_nil))))))) rfl (hlt (by simp))) ?_ sc30.nd
    refine sd_asgD 6 (R := fun cs2 sv => ∃ m vs', AllV vs' ∧ vs'.length ≤ 30 ∧ Vs m vs' b2 cs2 ∧ sv = .own m) (pd_catO (Ra := fun cs2 sv => ∃ m vs', AllV vs' ∧ vs'.length ≤ 20 ∧ Vs m vs' b2 cs2 ∧ sv = .own m) (ys := [.list rl, .list (rl ++ [.tuple [.int (p.1 + 2), .tuple (p.2.map .int)], .tuple [.int (-2), .tuple (p.2.map .int)]]), .list (rl ++ [.none])])
      (pd_catO (Ra := Is _ (.own m)) (ys := [.tuple [.int (p.1 + 1), .tuple (p.2.map .int)], .tuple [.bool true, .tuple (p.2.map .int)], .tuple [.int p.1, .list (p.2.map .int)], .list [.int p.1, .tuple (p.2.map .int)], .tuple [.int p.1, .tuple (p.2.map .int), .int 1], .tuple [.int p.1], .tuple [.int p.1, .tuple (c1.map .int)]].map fun x => .list (rl ++ [x])) (pv_var 6) (fun cs1 x ⟨h1, _⟩ => ?_) fun cs1 x hh => ?_)
      (fun cs1 x ⟨m, vs', h1, h2, h3, h4⟩ => ?_) fun cs1 x hh => ?_) (fun cs2 sv ⟨m2, vs2, h1, h2, h3, h4⟩ => ?_) sc30.nd
    · subst h1
      exact pv_lc (own := [("other", 13)]) (g := gName 13) (h := fun x => .list (rl ++ [x])) (pvi_list (pv_var 12)) (blkOk_by (by kernel_rfl)) (fun _ _ _ _ _ => pg_name (i := 13) sc30.nd rfl (Or.inl rfl)) gd_name (by decide) (fun x hx => ⟨_, rfl, fun s H C cl fp => pv_catL (pv_var 10) (pv_lst [x] (pva_cons (pv_var 13) pva_nil) rfl (hlt (by simp))) (hlt (by simp; omega))⟩) (by simp) sc30.nd
    · obtain ⟨h1, h2⟩ := hh
      subst h1 h2
      simp only [List.length_cons, List.length_nil] at hvl'
      refine ⟨m, vs', rfl, hV.at_, hlt (by simp; omega), _, _, av_app hvs' ?_, by simp; omega, hV.app, rfl⟩
      intro v hv
      obtain ⟨x, hx, rfl⟩ := List.mem_map.mp hv
      refine vok_l (ps_app hro (ps_cons ?_ ps_nil))
      simp only [List.mem_cons, List.not_mem_nil, or_false] at hx
      rcases hx with rfl | rfl | rfl | rfl | rfl | rfl | rfl
      · exact okq _
      · exact okq _
      · exact pok_tl
      · exact pok_l
      · exact pok_3
      · exact pok_1
      · exact pok_t hc2
    · exact pv_lst _ (pva_cons (pv_var 10) (pva_cons (pv_catL (pv_var 10) (pv_lst _ (pva_cons (pv_tup [.int (p.1 + 2), .tuple (p.2.map .int)] (pva_cons (pv_add (pv_var 8) pv_int) (pva_cons (pv_var 9) pva_nil)) rfl (hlt (by simp))) (pva_cons (pv_tup [.int (-2), .tuple (p.2.map .int)] (pva_cons (pv_neg pv_int) (pva_cons (pv_var 9) pva_nil)) rfl (hlt (by simp))) pva_nil)) rfl (hlt (by simp))) (hlt (by simp; omega))) (pva_cons (pv_catL (pv_var 10) (pv_lst [.none] (pva_cons pv_non pva_nil) rfl (hlt (by simp))) (hlt (by simp; omega))) pva_nil))) rfl (hlt (by simp))
    · obtain ⟨m, vs', h1, h2, h3, h4⟩ := hh
      exact ⟨m, vs', h4, h3.at_, hlt (by simp; omega), _, _, av_app h1 (av_cons (vok_l hro) (av_cons (vok_l (ps_app hro (ps_cons (okq _) (ps_cons (okq _) ps_nil)))) (av_cons (vok_l (ps_app hro (ps_cons pok_n ps_nil))) av_nil))), by simp; omega, h3.app, rfl⟩
    subst h4
    refine sd_expr (R := fun cs3 sv => ∃ v, ValOk v ∧ cs3 = cs2.set m2 (some (.lst (vs2 ++ [v])))) (pd_append (m := m2) (Ra := fun cs3 ys => ∃ v, ValOk v ∧ cs3 = cs2 ∧ ys = [.d v]) (pv_var 6) (PDA.imp (pva_cons (pv_catL (pv_var 10) (pv_lst [.tuple [.int p.1, .tuple ((p.2.map fun k => k - (n : Int)).map .int)]] (pva_cons (pv_tup [.int p.1, .tuple ((p.2.map fun k => k - (n : Int)).map .int)] (pva_cons (pv_var 8) (pva_cons (PV.eq (pv_tupleL B.tuple (pva_cons (pv_lc (own := [("k", 14)]) (g := gName 14) (h := hSub n) (pvi_tup (pv_var 9)) (blkOk_by (by kernel_rfl)) (fun _ _ _ _ _ => pg_name (i := 14) sc30.nd rfl (Or.inl rfl)) gd_name (by decide) (fun x hx => ?_) (by rw [List.length_map]; omega) sc30.nd) pva_nil)) (by rw [List.map_map, List.map_map]; rfl)) pva_nil)) rfl (hlt (by simp))) pva_nil) rfl (hlt (by simp))) (hlt (by simp; omega))) pva_nil) fun cs3 ys hh => ?_) (fun cs3 ys ⟨v, hv, k1, k2⟩ => ⟨v, vs2, k2, by rw [k1]; exact h3.at_, by omega, v, hv, by rw [k1]⟩) ⟨_, h3.at_⟩) fun cs3 sv ⟨v, hv, k1⟩ => ?_
    · obtain ⟨y, hy, rfl⟩ := List.mem_map.mp hx
      exact ⟨_, rfl, fun s H C cl fp => pv_sub (pv_var 14) (pv_var 1)⟩
    · exact ⟨_, vok_l (ps_app hro (ps_cons (pok_t (by rw [List.length_map]; omega)) ps_nil)), hh.1, hh.2⟩
    · subst k1
      exact sd_nil ⟨m2, vs2 ++ [v], b2, _, _, _, _, _, _, _, _, hb2.mono (by omega), av_app h1 (av_cons hv av_nil), by rw [List.length_append, List.length_singleton]; omega, h3.set, rfl⟩
  · exact sd_nil ⟨1, vs, b1, _, _, _, _, _, _, _, _, hb1.mono (by omega), hvs, by omega, ⟨by decide, rfl, rfl⟩, rfl⟩
  · subst e1
    refine sd_freeze (ds' := [some (.own 0), some (.d (.int n)), some (.d (.list (ps.map wpD))), some (.d (.list (qs.map wpD))), some (.d (.int most)), some (.d (.list (ps.map wpD))), some (.d (.list vs)), a7, a8, a9, a10, a11, a12, a13, a14]) m (.lst vs) hV.at_ ⟨rfl, fun i sv q => ?_⟩ ?_
    · match i with
      | 0 => exact .inl q
      | 1 => exact .inl q
      | 2 => exact .inl q
      | 3 => exact .inl q
      | 4 => exact .inl q
      | 5 => exact .inl q
      | 6 => simp at q; exact .inr ⟨rfl, q.symm⟩
      | i + 7 => exact .inl q
    refine sd_ret (PV.pd (pv_var 6) ?_)
    refine ⟨trivial, ?_⟩
    show R ((cs'.set m none).take 1) _
    rw [hV.fin]
    exact hR vs b2 hvs2 hvl2 hb2
end
end K69
set_option Elab.async false
set_option linter.all false
set_option maxRecDepth 100000
set_option maxHeartbeats 4000000
namespace DL
open PySem PySem.Spec PyProof.Rows L2
theorem pd_catD {X : Cx} {a b : Expr} {ds : Slots} {cs : Cells} {pos : Pos} {R : Cells → SV → Prop} {xs : List PyData} {Rb : Cells → SV → Prop} (ha : PV X ds cs a (.d (.list xs))) (hb : PD X ds cs b Rb) (k : ∀ cs2 y, Rb cs2 y → ∃ ys, y = .d (.list ys) ∧ xs.length + ys.length ≤ sizeLine ∧ R cs2 (.d (.list (xs ++ ys)))) : PD X ds cs (.BinOp a .Add b pos) R :=
  pd_op op_cat ha (Rb := fun _ _ => Rb) (fun cs1 x ⟨h, _⟩ => by subst h; exact hb) fun cs1 x cs2 y ⟨_, r1⟩ r2 _ => by
    obtain ⟨ys, rfl, hz, hR⟩ := k cs2 y r2
    subst r1
    intro G A fr H v w Q W0 h1 h2 g
    obtain ⟨a0, ws, rfl, hg, hall⟩ := dt_lst h1
    obtain ⟨a1, ws1, rfl, hg1, hall1⟩ := dt_lst h2
    exact ⟨a0, a1, ws, ws1, rfl, rfl, W0.gh _ _ hg, W0.gh _ _ hg1, by rw [hall.length, hall1.length]; exact hz, fun l hl => g.lst hR W0 (hall.append hall1) hl⟩
end DL
namespace K69
open PySem PySem.Spec PyProof.Rows L2 DL
abbrev s31 : Stmt := topS 31
theorem sc31 : FnScope ["box", "square", "pairs", "strange", "way", "many", "told", "values", "value", "due"] ["box", "square", "pairs", "strange", "way"] (defScope s31) := ⟨rfl, rfl, rfl, by decide +kernel, rfl, by decide +kernel, by decide +kernel⟩
def kg1 {α : Type} : List α → List α → List α
  | [], [a] => [a]
  | _, _ => []
def kg2 {α : Type} : List α → List α → List α
  | [], [a, b] => [b, a]
  | _, _ => []
theorem kg1_rel {vs : List V} {us : List Value} {zs : List V} {ws : List Value} (h : Vals vs us) (k : Vals zs ws) : Vals (kg1 vs zs) (kg1 us ws) := by
  cases h with
  | nil =>
    cases k with
    | nil => exact .nil
    | cons a b =>
      cases b with
      | nil => exact .cons a .nil
      | cons _ _ => exact .nil
  | cons _ _ => exact .nil
theorem kg2_rel {vs : List V} {us : List Value} {zs : List V} {ws : List Value} (h : Vals vs us) (k : Vals zs ws) : Vals (kg2 vs zs) (kg2 us ws) := by
  cases h with
  | nil =>
    cases k with
    | nil => exact .nil
    | cons a b =>
      cases b with
      | nil => exact .nil
      | cons c d =>
        cases d with
        | nil => exact .cons c (.cons a .nil)
        | cons _ _ => exact .nil
  | cons _ _ => exact .nil
theorem kb15 {K : PySem.W.Frag} {f : Addr} {fd : FuncData} (F : Fun K "permutation_sum" "permutation_sum" s15 f fd) : KBinds K fd ["square"] ["square"] kg1 kg1 := by
  obtain ⟨oc, od, kV, doc, pm, an, cdv, ct, osl, rfl, lk, hcd⟩ := F.ex
  refine ⟨fun s us ws _ hl => ?_, fun h k => kg1_rel h k⟩
  match us, ws, hl with
  | [], [a], _ => exact .of_eq rfl
theorem kb17 {K : PySem.W.Frag} {f : Addr} {fd : FuncData} (F : Fun K "is_permutation_sum" "is_permutation_sum" s17 f fd) : KBinds K fd ["square", "value"] ["value", "square"] kg2 kg2 := by
  obtain ⟨oc, od, kV, doc, pm, an, cdv, ct, osl, rfl, lk, hcd⟩ := F.ex
  refine ⟨fun s us ws _ hl => ?_, fun h k => kg2_rel h k⟩
  match us, ws, hl with
  | [], [a, b], _ => exact .of_eq rfl

def S31 : DL.Spec := fun xs cs R => ∃ (rs : List (List Int)) (pv : PyData) (qs : List (Int × List Int)) (way : Int) (c : Nat) (b : List PyData), xs = [.own 0, .d (sqD rs), .d pv, .d (.list (qs.map wpD)), .d (.int way)] ∧ cs = bx b ∧ BoxOk c b ∧ c ≤ 900000 ∧ SqOk rs ∧ (pv = .none ∨ ∃ ps : List (Int × List Int), pv = .list (ps.map wpD) ∧ ps.length ≤ 50 ∧ ∀ p ∈ ps, WP rs.length p) ∧ (∀ q ∈ qs, q.2.length ≤ 60) ∧ qs.length ≤ 50 ∧
  ∀ b', BoxOk (c + 1000) b' → R (bx b') (.d (.bool true))
section
variable {P : Program} {w : World} {K : PySem.W.Frag} {mg : Str → Option Value} {base : Heap}
theorem ok31 (B : Bl mg) (D15 : Def K mg "permutation_sum" s15 ["square"]) (F15 : FnOk P w K mg base CX0 4 D15.f D15.fd ["square"] (spD K (PureS f15))) (D17 : Def K mg "is_permutation_sum" s17 ["square", "value"]) (F17 : FnOk P w K mg base CX0 5 D17.f D17.fd ["square", "value"] (spD K (PureS f17)))
    (D24 : Def K mg "_law_same" s24 ["given", "due"]) (F24 : FnOk P w K mg base CX0 1 D24.f D24.fd ["given", "due"] (spD K (PureS f24))) (D27 : Def K mg "_law_is_sum" s27 ["square", "value"]) (F27 : FnOk P w K mg base CX0 2 D27.f D27.fd ["square", "value"] (spD K (PureS f27)))
    (D30 : Def K mg "_law_values" s30 ["box", "many", "pairs", "strange"]) (F30 : FnOk P w K mg base CX0 3 D30.f D30.fd ["box", "many", "pairs", "strange"] (spD K S30)) (D : Def K mg "_law_square_right" s31 ["box", "square", "pairs", "strange", "way"]) : FnOk P w K mg base CX0 6 D.f D.fd ["box", "square", "pairs", "strange", "way"] (spD K S31) := by
  refine fn_def D.F sc31 (fun xs cs R ⟨_, _, _, _, _, _, e, _⟩ => by rw [e]; rfl) fun cdv A outer s H E xs cs R hr ⟨rs, pv, qs, way, c, b, hx, hcs, hb, hc, ok, hpv, hqs, hql, hR⟩ => ?_
  subst hcs hx
  have h1 := ok.pos
  have h2 := ok.six
  have zl : (1000000 : Nat) ≤ sizeLine := by decide
  have hlt : ∀ {k : Nat}, k ≤ 1000000 → k ≤ sizeLine := fun h => Nat.le_trans h zl
  refine sd_asg 5 (sv := .d (.int (rs.length : Nat))) (PV.eq (pv_lenT B.len (pva_cons (pv_var 1) pva_nil)) (by rw [List.length_map])) ?_ sc31.nd
  obtain ⟨td, hf15, htok, htv, htl⟩ : ∃ td, f15 [.d (sqD rs)] td ∧ isB rs td = true ∧ ValOk td ∧ (td = .none ∨ ∃ xs, td = .list xs) := by
    by_cases he : evenB rs = true
    · obtain ⟨cc, res, g, run, hl, hq, hB⟩ := told_ok ok he
      refine ⟨.list (res.map pairD), ⟨rs, ok, rfl, .inr ⟨he, cc, res, g, run, hl, rfl⟩⟩, hB, vok_l fun x hx => ?_, .inr ⟨_, rfl⟩⟩
      obtain ⟨q, hqm, rfl⟩ := List.mem_map.mp hx
      have hp := (hq q hqm).2
      have hl2 := hp.length_eq
      have e : pairD q = .tuple [.int q.1, .tuple ((q.2.map fun (k : Nat) => (k : Int)).map .int)] := by
        unfold pairD tupN
        rw [List.map_map]; rfl
      rw [e]
      refine pok_t ?_
      rw [hl2]
      simp [rangeI]; omega
    · have he' : evenB rs = false := by simpa using he
      exact ⟨.none, ⟨rs, ok, rfl, .inl ⟨he', rfl⟩⟩, by show (!evenB rs) = true; rw [he']; rfl, vok_n, .inl rfl⟩
  refine sd_asgD 6 (R := Is (bx b) (.d td)) (pv_if (p := decide (way = 0)) (pvt_eqI (pv_var 4) pv_int)
    (fun _ => pv_call F15 (hr.mono (by decide)) D15.m D15.F.kp D15.b (pva_cons (pv_var 1) pva_nil) hf15)
    (fun _ => pv_callK (xs := [.d (sqD rs)]) (kg1 []) F15 (hr.mono (by decide)) D15.m D15.F.kp (kb15 D15.F) (fun G A n vs h => by cases h with | cons h1 h2 => cases h2; exact .cons h1 .nil) (pvk_cons (pv_var 1) pvk_nil) hf15 (by simp [kg1, noOwn]))) (fun cs' sv ⟨e1, e2⟩ => ?_) sc31.nd
  subst e1 e2
  have hnl : (!isNoneD td && !isD "list" td) = false := by
    rcases htl with rfl | ⟨xs, rfl⟩ <;> rfl
  refine sd_ifNo (PVT.eq (pvt_or (pvt_not (pvt_val (pv_call F27 (hr.mono (by decide)) D27.m D27.F.kp D27.b (pva_cons (pv_var 1) (pva_cons (pv_var 6) pva_nil)) ⟨rs, td, ok, htv, rfl, rfl⟩))) fun _ => pvw_or1 (pvt_and (pvt_notN (pv_var 6)) fun _ => pvw_and1 (pvt_not (pvt_val (pv_isi "list" (.inr (.inr (.inr (.inr (.inl rfl))))) B.isinstance B.list (by decide +kernel) (pv_var 6)))))) (by rw [htok, hnl]; rfl)) ?_
  refine sd_asgD 7 (R := fun cs' sv => ∃ b' vs, BoxOk (c + 1000) b' ∧ AllV vs ∧ vs.length ≤ 200 ∧ cs' = bx b' ∧ sv = .d (.list vs)) (pv_if (p := isNoneD pv) (pvt_isN (pv_var 2)) (fun hp => ?_) (fun hp => ?_)) (fun cs' sv ⟨b', vs, hb', hvs, hvl, e1, e2⟩ => ?_) sc31.nd
  · refine PV.pd (pv_lst [td, .none, .list [], .list (qs.map wpD)] (pva_cons (pv_var 6) (pva_cons pv_non (pva_cons (pv_lst [] pva_nil rfl) (pva_cons (pv_var 3) pva_nil)))) rfl (hlt (by simp))) ⟨b, _, hb.mono (by omega), av_cons htv (av_cons vok_n (av_cons (vok_l ps_nil) (av_cons (vok_l (ps_wps hqs)) av_nil))), by simp, rfl, rfl⟩
  · rcases hpv with rfl | ⟨ps, rfl, hpl, hps⟩
    · cases hp
    refine pd_catD (xs := [td]) (Rb := fun cs' sv => ∃ b' vs, BoxOk (c + 1000) b' ∧ AllV vs ∧ vs.length ≤ 100 ∧ cs' = bx b' ∧ sv = .d (.list vs)) (pv_lst [td] (pva_cons (pv_var 6) pva_nil) rfl (hlt (by simp)))
      (pd_call1 (m := 0) F30 (hr.mono (by decide)) D30.m D30.F.kp D30.b (pva_cons (pv_var 0) (pva_cons (pv_var 5) (pva_cons (pv_var 2) (pva_cons (pv_var 3) pva_nil)))) fun cs1 xs hh => ?_)
      fun cs2 y ⟨b', vs, hb', hvs, hvl, k1, k2⟩ => ⟨vs, k2, hlt (by simp; omega), b', _, hb', av_cons htv hvs, by simp; omega, k1, rfl⟩
    obtain ⟨k1, k2⟩ := hh
    refine ⟨.lst b, [.own 0, .d (.int (rs.length : Nat)), .d (.list (ps.map wpD)), .d (.list (qs.map wpD))], fun cc sv => ∃ vs b', AllV vs ∧ vs.length ≤ 100 ∧ BoxOk (c + 1000) b' ∧ cc = bx b' ∧ sv = .d (.list vs), by rw [k1]; rfl, k2, fun z hz => ?_, ⟨rs.length, ps, qs, c, b, rfl, rfl, hb, hc, h1, h2, hps, hqs, hpl, hql, fun vs b' q1 q2 q3 => ⟨vs, b', q1, q2, q3, rfl, rfl⟩⟩, fun cc sv ⟨vs, b', q1, q2, q3, q4, q5⟩ => ⟨.lst b', q4, by rw [q5]; trivial, b', vs, q3, q1, q2, by rw [k1]; rfl, q5⟩⟩
    simp at hz
    rcases hz with rfl | rfl | rfl | rfl
    · exact .inr rfl
    · exact .inl trivial
    · exact .inl trivial
    · exact .inl trivial
  subst e1 e2
  refine sd_for (xs := vs) (g := gName 8) (f := fName 8) (fun i ds' cs' => ∃ wy a8 a9, cs' = bx b' ∧ ds' = [some (.own 0), some (.d (sqD rs)), some (.d pv), some (.d (.list (qs.map wpD))), some (.d (.int wy)), some (.d (.int (rs.length : Nat))), some (.d td), some (.d (.list vs)), a8, a9]) (pvi_list (pv_var 7)) (pg_name (i := 8) sc31.nd rfl (by first | exact Or.inl rfl | exact Or.inr rfl)) gd_name ⟨way, none, none, rfl, rfl⟩ (fun i x ds' cs' hx ⟨wy, a8, a9, e1, e2⟩ => ⟨_, rfl, ?_⟩) (fun ds' cs' ⟨wy, a8, a9, e1, e2⟩ => ?_) .never
  · subst e1 e2
    have hxv := hvs x (List.mem_of_getElem? hx)
    refine sd_asg 9 (sv := .d (.bool (isB rs x))) (pv_call F27 (hr.mono (by decide)) D27.m D27.F.kp D27.b (pva_cons (pv_var 1) (pva_cons (pv_var 8) pva_nil)) ⟨rs, x, ok, hxv, rfl, rfl⟩) ?_ sc31.nd
    refine sd_ifNo (PVT.eq (pvt_not (pvt_val (pv_call F24 (hr.mono (by decide)) D24.m D24.F.kp D24.b (pva_cons (sv := .d (.bool (isB rs x))) (pv_if (p := decide (wy = 0)) (pvt_eqI (pv_var 4) pv_int)
      (fun _ => pv_call F17 (hr.mono (by decide)) D17.m D17.F.kp D17.b (pva_cons (pv_var 1) (pva_cons (pv_var 8) pva_nil)) ⟨rs, x, ok, rfl, rfl⟩)
      (fun _ => pv_callK (xs := [.d x, .d (sqD rs)]) (kg2 []) F17 (hr.mono (by decide)) D17.m D17.F.kp (kb17 D17.F) (fun G A n vs h => by
        cases h with
        | cons h1 h2 =>
          cases h2 with
          | cons h3 h4 =>
            cases h4
            exact .cons h3 (.cons h1 .nil)) (pvk_cons (pv_var 8) (pvk_cons (pv_var 1) pvk_nil)) ⟨rs, x, ok, rfl, rfl⟩ (by simp [kg2, noOwn]))) (pva_cons (pv_var 9) pva_nil)) ⟨_, _, rfl, rfl⟩))) (by simp)) ?_
    refine sd_asg 4 (pv_sub pv_int (pv_var 4)) (sd_nil ⟨_, _, _, rfl, rfl⟩) sc31.nd
  · subst e1 e2
    refine sd_ret (PV.pd pv_bl ?_)
    exact hR b' hb'
end
end K69
set_option Elab.async false
set_option linter.all false
set_option maxRecDepth 100000
set_option maxHeartbeats 4000000
namespace DL
open PySem PySem.Spec PyProof.Rows L2
theorem pdt_not {X : Cx} {a : Expr} {ds : Slots} {cs : Cells} {pos : Pos} {R R' : Cells → Bool → Prop} (ha : PDT X ds cs a R) (k : ∀ cs1 p, R cs1 p → R' cs1 (!p)) : PDT X ds cs (.UnaryOp .Not a pos) R' :=
  pt_imp (pt_not ha) fun σ H Q ⟨G, A, fr, w, sl, g⟩ => ⟨G, A, fr, w, sl, fun q cs1 G1 A1 H1 r1 e1 a1 l1 w1 => g _ _ _ _ _ (k _ _ r1) e1 a1 l1 w1⟩
end DL
namespace K69
open PySem PySem.Spec PyProof.Rows L2 DL
/-- the box in the cell m -/
def Bs (m k : Nat) (cs : Cells) : Prop := ∃ b, BoxOk k b ∧ cs[m]? = some (some (.lst b))
theorem Bs.mono {m k k' : Nat} {cs : Cells} (h : Bs m k cs) (l : k ≤ k') : Bs m k' cs := by
  obtain ⟨b, h1, h2⟩ := h
  exact ⟨b, h1.mono l, h2⟩
theorem Bs.of {m k : Nat} {cs : Cells} {b b' : List PyData} (h : cs[m]? = some (some (.lst b))) (hb : BoxOk k b') : Bs m k (cs.set m (some (.lst b'))) := by
  have hl := (List.getElem?_eq_some_iff.mp h).1
  exact ⟨b', hb, List.getElem?_set_self hl⟩
section
variable {X : Cx} {ds : Slots} {cs : Cells} {m c : Nat} {e1 e2 e3 e4 e5 : Expr} {p pos pos2 : Pos} {n : Int} {ys : List PyData}
theorem qd_take (D21 : Def X.K X.mg "_law_take" s21 ["box", "many"]) (F21 : FnOk X.prog X.w X.K X.mg X.base CX0 1 D21.f D21.fd ["box", "many"] (spD X.K S21)) (hr : Room 1 X.A) (hB : Bs m c cs) (ha : PVA X ds cs [e1, e2] [.own m, .d (.int n)]) (hc : c ≤ 900000) (hn : 1 ≤ n ∧ n ≤ 1000000)
    (hg : Gl X "_law_take" := by rfl) (he : starEach [e1, e2] X.env = (false, eval e1 X.env) :: starEach [e2] X.env := by rfl) (hpl : (backTo pos (starEach [e2] X.env)).any (·.1) = false := by rfl) : PD X ds cs (.Call (.Name "_law_take" p) [e1, e2] [] pos) (fun cs' sv => Bs m (c + 1) cs' ∧ ∃ r, 0 ≤ r ∧ r < n ∧ sv = .d (.int r)) := by
  obtain ⟨b, hb, hm⟩ := hB
  exact pd_take D21 F21 hr ha hm hb (by omega) hn (fun r b' r0 r1 hb' => ⟨.of hm hb', r, r0, r1, rfl⟩) hg he hpl
theorem qd_mixed (D23 : Def X.K X.mg "_law_mixed" s23 ["box", "items"]) (F23 : FnOk X.prog X.w X.K X.mg X.base CX0 2 D23.f D23.fd ["box", "items"] (spD X.K S23)) (hr : Room 2 X.A) (hB : Bs m c cs) {k : Nat} (ha : PVA X ds cs [e1, e2] [.own m, .d (.list ((rangeI k).map .int))]) (hk : k ≤ 6) (hc : c ≤ 900000)
    (hg : Gl X "_law_mixed" := by rfl) (he : starEach [e1, e2] X.env = (false, eval e1 X.env) :: starEach [e2] X.env := by rfl) (hpl : (backTo pos (starEach [e2] X.env)).any (·.1) = false := by rfl) : PD X ds cs (.Call (.Name "_law_mixed" p) [e1, e2] [] pos) (fun cs' sv => Bs m (c + 6) cs' ∧ ∃ o : List Int, o.Perm (rangeI k) ∧ sv = .d (.list (o.map .int))) := by
  obtain ⟨b, hb, hm⟩ := hB
  have hl : ((rangeI k).map PyData.int).length = k := by simp [rangeI]
  refine pd_mixed D23 F23 hr ha hm hb (by omega) (by omega) (fun zs b' hz hb' => ⟨.of hm (hb'.mono (by omega)), intsOf zs, ?_, ?_⟩) hg he hpl
  · have := hz.map (fun | PyData.int i => i | _ => 0)
    have e6 : ((rangeI k).map PyData.int).map (fun | PyData.int i => i | _ => 0) = rangeI k := intsOf_map _
    rw [e6] at this
    exact this
  · have e4 : zs = (intsOf zs).map .int := by
      unfold intsOf
      rw [List.map_map]
      conv => lhs; rw [← List.map_id zs]
      apply List.map_congr_left
      intro z hz2
      obtain ⟨y, _, rfl⟩ := List.mem_map.mp (hz.mem_iff.mp hz2)
      rfl
    rw [← e4]
theorem qd_pairs (D28 : Def X.K X.mg "_law_pairs" s28 ["box", "many", "most"]) (F28 : FnOk X.prog X.w X.K X.mg X.base CX0 3 D28.f D28.fd ["box", "many", "most"] (spD X.K S28)) (hr : Room 3 X.A) (hB : Bs m c cs) {k most : Nat} (ha : PVA X ds cs [e1, e2, e3] [.own m, .d (.int k), .d (.int most)]) (hk : 1 ≤ k ∧ k ≤ 6) (hm : most ≤ 50) (hc : c ≤ 900000)
    (hg : Gl X "_law_pairs" := by rfl) (he : starEach [e1, e2, e3] X.env = (false, eval e1 X.env) :: starEach [e2, e3] X.env := by rfl) (hpl : (backTo pos (starEach [e2, e3] X.env)).any (·.1) = false := by rfl) : PD X ds cs (.Call (.Name "_law_pairs" p) [e1, e2, e3] [] pos) (fun cs' sv => Bs m (c + 1000) cs' ∧ ∃ ps : List (Int × List Int), (∀ p ∈ ps, GoodP k p) ∧ ps.length ≤ most ∧ sv = .d (.list (ps.map wpD))) := by
  obtain ⟨b, hb, hmm⟩ := hB
  refine pd_call1 (m := m) F28 hr D28.m D28.F.kp D28.b ha (fun cs1 xs ⟨h1, h2⟩ => ?_) hg (by decide) he hpl
  refine ⟨.lst b, [.own 0, .d (.int k), .d (.int most)], fun cc sv => ∃ ps b', (∀ p ∈ ps, GoodP k p) ∧ ps.length ≤ most ∧ BoxOk (c + 1000) b' ∧ cc = bx b' ∧ sv = .d (.list (ps.map wpD)), by rw [h1]; exact hmm, h2, fun z hz => ?_, ⟨k, most, c, b, rfl, rfl, hb, hc, hk.1, hk.2, hm, fun ps b' q1 q2 q3 => ⟨ps, b', q1, q2, q3, rfl, rfl⟩⟩, fun cc sv ⟨ps, b', q1, q2, q3, q4, q5⟩ => ⟨.lst b', q4, by rw [q5]; trivial, by rw [h1]; exact .of hmm q3, ps, q1, q2, q5⟩⟩
  simp at hz
  rcases hz with rfl | rfl | rfl
  · exact .inr rfl
  · exact .inl trivial
  · exact .inl trivial
/-- not _law_square_right(..): never -/
theorem qt_sq (D31 : Def X.K X.mg "_law_square_right" s31 ["box", "square", "pairs", "strange", "way"]) (F31 : FnOk X.prog X.w X.K X.mg X.base CX0 6 D31.f D31.fd ["box", "square", "pairs", "strange", "way"] (spD X.K S31)) (hr : Room 6 X.A) (hB : Bs m c cs) {rs : List (List Int)} {pv : PyData} {qs : List (Int × List Int)} {way : Int}
    (ha : PVA X ds cs [e1, e2, e3, e4, e5] [.own m, .d (sqD rs), .d pv, .d (.list (qs.map wpD)), .d (.int way)]) (ok : SqOk rs) (hp : pv = .none ∨ ∃ ps : List (Int × List Int), pv = .list (ps.map wpD) ∧ ps.length ≤ 50 ∧ ∀ p ∈ ps, WP rs.length p) (hq : ∀ q ∈ qs, q.2.length ≤ 60) (hql : qs.length ≤ 50) (hc : c ≤ 900000)
    (hg : Gl X "_law_square_right" := by rfl) (he : starEach [e1, e2, e3, e4, e5] X.env = (false, eval e1 X.env) :: starEach [e2, e3, e4, e5] X.env := by rfl) (hpl : (backTo pos (starEach [e2, e3, e4, e5] X.env)).any (·.1) = false := by rfl)
    (hT : ∀ whole, isTrue (.Call (.Name "_law_square_right" p) [e1, e2, e3, e4, e5] [] pos) X.env whole = (do let v ← whole; standAt (Expr.Call (.Name "_law_square_right" p) [e1, e2, e3, e4, e5] [] pos).pos; holding [v] (truthy v)) := by intro _; rfl) :
    PDT X ds cs (.UnaryOp .Not (.Call (.Name "_law_square_right" p) [e1, e2, e3, e4, e5] [] pos) pos2) (fun cs' b => b = false ∧ Bs m (c + 1000) cs') := by
  obtain ⟨b, hb, hmm⟩ := hB
  refine pdt_not (R := fun cs' b => b = true ∧ Bs m (c + 1000) cs') (pdt_val (Ra := fun cs' sv => Bs m (c + 1000) cs' ∧ sv = .d (.bool true)) (pd_call1 (m := m) F31 hr D31.m D31.F.kp D31.b ha (fun cs1 xs ⟨h1, h2⟩ => ?_) hg (by decide) he hpl) (fun cs1 x ⟨h1, h2⟩ => ⟨true, h2, rfl, h1⟩) hT) fun cs1 p ⟨h1, h2⟩ => ⟨by rw [h1]; rfl, h2⟩
  refine ⟨.lst b, [.own 0, .d (sqD rs), .d pv, .d (.list (qs.map wpD)), .d (.int way)], fun cc sv => ∃ b', BoxOk (c + 1000) b' ∧ cc = bx b' ∧ sv = .d (.bool true), by rw [h1]; exact hmm, h2, fun z hz => ?_, ⟨rs, pv, qs, way, c, b, rfl, rfl, hb, hc, ok, hp, hq, hql, fun b' q => ⟨b', q, rfl, rfl⟩⟩, fun cc sv ⟨b', q1, q2, q3⟩ => ⟨.lst b', q2, by rw [q3]; trivial, by rw [h1]; exact .of hmm q1, q3⟩⟩
  simp at hz
  rcases hz with rfl | rfl | rfl | rfl | rfl
  · exact .inr rfl
  · exact .inl trivial
  · exact .inl trivial
  · exact .inl trivial
  · exact .inl trivial
end
/-! ### the squares that the law makes -/
theorem GoodP.wp {n : Nat} {p : Int × List Int} (h : GoodP n p) : WP n p := ⟨h.1, h.2.length_eq.trans (by simp [rangeI])⟩
theorem GoodP.len {n : Nat} {p : Int × List Int} (h : GoodP n p) (hn : n ≤ 6) : p.2.length ≤ 60 := by have := h.wp.len; omega
theorem GoodP.pin {n : Nat} {p : Int × List Int} (h : GoodP n p) : PairIn n (wpD p) := ⟨p.1, p.2, rfl, (of_perm h.2).1⟩
theorem pairsOf_wps (ps : List (Int × List Int)) : pairsOf (ps.map wpD) = ps := by
  unfold pairsOf
  rw [List.map_map]
  conv => rhs; rw [← List.map_id ps]
  apply List.map_congr_left
  intro p _
  show (p.1, intsOf (p.2.map .int)) = p
  rw [intsOf_map]
theorem addR_ok {n : Nat} {ps : List (Int × List Int)} (h1 : 1 ≤ n) (h2 : n ≤ 6) (h : ∀ p ∈ ps, GoodP n p) : SqOk (addR n ps) := by
  have hM := rect_addR n ps
  have s := addR_sto (n := n) (ps := ps) fun p hp => ⟨by have := (h p hp).1; omega, (h p hp).2⟩
  refine ⟨by rw [hM.len]; exact h1, by rw [hM.len]; exact h2, fun r hr => by rw [hM.len]; exact hM.rows r hr, fun r hr x hx => ?_⟩
  obtain ⟨k, hk⟩ := List.mem_iff_getElem?.mp hr
  obtain ⟨j, hj⟩ := List.mem_iff_getElem?.mp hx
  have l1 := (List.getElem?_eq_some_iff.mp hk).1
  have l2 := (List.getElem?_eq_some_iff.mp hj).1
  rw [hM.len] at l1
  rw [hM.rows r hr] at l2
  have := s.nn k j l1 l2
  rw [at2_eq hk hj] at this
  exact this
def turnR (rs : List (List Int)) (o : List Int) : List (List Int) := o.map fun j => rs.getD j.toNat []
def acrR (rs : List (List Int)) (o : List Int) : List (List Int) := rs.map fun r => o.map fun j => r.getD j.toNat 0
theorem ord_get {n : Nat} {o : List Int} (h : o.Perm (rangeI n)) : o.length = n ∧ ∀ j ∈ o, 0 ≤ j ∧ j.toNat < n := by
  obtain ⟨h1, _⟩ := of_perm h
  exact ⟨h1.len, fun j hj => ⟨(h1.lo j hj).1, by have := h1.lo j hj; omega⟩⟩
theorem turn_ok {rs : List (List Int)} {o : List Int} (ok : SqOk rs) (h : o.Perm (rangeI rs.length)) : SqOk (turnR rs o) ∧ (turnR rs o).length = rs.length := by
  obtain ⟨hl, hlo⟩ := ord_get h
  have hlen : (turnR rs o).length = rs.length := by simp [turnR, hl]
  have mem : ∀ r ∈ turnR rs o, r ∈ rs := fun r hr => by
    obtain ⟨j, hj, rfl⟩ := List.mem_map.mp hr
    rw [List.getD_eq_getElem?_getD, List.getElem?_eq_getElem (hlo j hj).2]
    exact List.getElem_mem _
  exact ⟨⟨by rw [hlen]; exact ok.pos, by rw [hlen]; exact ok.six, fun r hr => by rw [hlen]; exact ok.len r (mem r hr), fun r hr => ok.nn r (mem r hr)⟩, hlen⟩
theorem acr_ok {rs : List (List Int)} {o : List Int} (ok : SqOk rs) (h : o.Perm (rangeI rs.length)) : SqOk (acrR rs o) ∧ (acrR rs o).length = rs.length := by
  obtain ⟨hl, hlo⟩ := ord_get h
  have hlen : (acrR rs o).length = rs.length := by simp [acrR]
  refine ⟨⟨by rw [hlen]; exact ok.pos, by rw [hlen]; exact ok.six, fun r hr => ?_, fun r hr x hx => ?_⟩, hlen⟩
  · obtain ⟨q, hq, rfl⟩ := List.mem_map.mp hr
    rw [List.length_map, hlen, hl]
  · obtain ⟨q, hq, rfl⟩ := List.mem_map.mp hr
    obtain ⟨j, hj, rfl⟩ := List.mem_map.mp hx
    have hjl : j.toNat < q.length := by rw [ok.len q hq]; exact (hlo j hj).2
    rw [List.getD_eq_getElem?_getD, List.getElem?_eq_getElem hjl]
    exact ok.nn q hq _ (List.getElem_mem hjl)
theorem bes_ok {r1 r2 : List (List Int)} (o1 : SqOk r1) (o2 : SqOk r2) (h : r1.length + r2.length ≤ 6) : SqOk (besR r1 r2) ∧ (besR r1 r2).length = r1.length + r2.length := by
  have hlen : (besR r1 r2).length = r1.length + r2.length := by simp [besR]
  have hp := o1.pos
  refine ⟨⟨by omega, by omega, fun r hr => ?_, fun r hr x hx => ?_⟩, hlen⟩
  · rw [hlen]
    rcases List.mem_append.mp hr with hr | hr
    · obtain ⟨q, hq, rfl⟩ := List.mem_map.mp hr
      rw [List.length_append, List.length_replicate, o1.len q hq]
    · obtain ⟨q, hq, rfl⟩ := List.mem_map.mp hr
      rw [List.length_append, List.length_replicate, o2.len q hq]
  · rcases List.mem_append.mp hr with hr | hr
    · obtain ⟨q, hq, rfl⟩ := List.mem_map.mp hr
      rcases List.mem_append.mp hx with hx | hx
      · exact o1.nn q hq x hx
      · rw [(List.mem_replicate.mp hx).2]; exact Int.le_refl _
    · obtain ⟨q, hq, rfl⟩ := List.mem_map.mp hr
      rcases List.mem_append.mp hx with hx | hx
      · rw [(List.mem_replicate.mp hx).2]; exact Int.le_refl _
      · exact o2.nn q hq x hx
/-- one more at (a, 0) -/
def oddR (n : Nat) (rs : List (List Int)) (a : Int) : List (List Int) := (List.range n).map fun (i : Nat) => (List.range n).map fun (j : Nat) => at2 rs i j + (if (decide ((i : Int) = a) && decide ((j : Int) = 0)) = true then 1 else 0)
theorem odd_ok {rs : List (List Int)} {a : Int} (ok : SqOk rs) : SqOk (oddR rs.length rs a) ∧ (oddR rs.length rs a).length = rs.length := by
  have hlen : (oddR rs.length rs a).length = rs.length := by simp [oddR]
  refine ⟨⟨by rw [hlen]; exact ok.pos, by rw [hlen]; exact ok.six, fun r hr => ?_, fun r hr x hx => ?_⟩, hlen⟩
  · obtain ⟨i, hi, rfl⟩ := List.mem_map.mp hr
    rw [hlen]; simp
  · obtain ⟨i, hi, rfl⟩ := List.mem_map.mp hr
    obtain ⟨j, hj, rfl⟩ := List.mem_map.mp hx
    have hi' := List.mem_range.mp hi
    have hj' := List.mem_range.mp hj
    have hk : rs[i]? = some rs[i] := by simp [hi']
    have hl : j < rs[i].length := by rw [ok.len _ (List.getElem_mem hi')]; exact hj'
    have hx : rs[i][j]? = some rs[i][j] := by simp [hl]
    have h0 := ok.nn _ (List.getElem_mem hi') _ (List.getElem_mem hl)
    show 0 ≤ at2 rs i j + _
    rw [at2_eq hk hx]
    split <;> omega
end K69
set_option Elab.async false
set_option linter.all false
set_option maxRecDepth 100000
set_option maxHeartbeats 1500000
namespace DL
open PySem PySem.Spec PyProof.Rows L2
theorem sd_as {X : Cx} {sts : List Stmt} {ds : Slots} {cs : Cells} {P : DE} (ds' : Slots) (e : ds = ds') (k : SD X ds' cs sts P) : SD X ds cs sts P := e ▸ k
theorem sd_ifNoE {X : Cx} {c : Expr} {sa rest : List Stmt} {ds : Slots} {cs : Cells} {pos : Pos} {P : DE} {Rc : Cells → Bool → Prop} (hc : PDT X ds cs c Rc) (hf : ∀ cs1, ¬ Rc cs1 true) (k : ∀ cs1, Rc cs1 false → SD X ds cs1 rest P) : SD X ds cs (.If c sa [] pos :: rest) P :=
  sd_ifD (M := fun ds' cs' => ds' = ds ∧ Rc cs' false) hc (fun cs1 h => (hf cs1 h).elim) (fun cs1 h => sd_nil ⟨rfl, h⟩) fun ds' cs' ⟨e, h⟩ => by rw [e]; exact k cs' h
end DL
namespace K69
open PySem PySem.Spec PyProof.Rows L2 DL
abbrev s32 : Stmt := topS 32
theorem sc32 : FnScope ["script", "k", "box", "way", "great", "many", "most", "pairs", "strange", "square", "other", "order", "turned", "j", "across", "line", "first", "weight", "places", "second", "one", "far", "pair", "block", "whole", "at", "odd", "i"] ["script"] (defScope s32) := ⟨rfl, rfl, rfl, by decide +kernel, rfl, by decide +kernel, by decide +kernel⟩
def f32 : List SV → PyData → Prop := fun xs d => ∃ ns, ns.length ≤ 63 ∧ xs = [.ro ns] ∧ d = .bool true
def hTurn (sq : List (List Int)) : PyData → PyData
  | .int j => rowD (sq.getD j.toNat [])
  | _ => .none
def hAcr (o : List Int) : PyData → PyData
  | .tuple ys => .tuple ((o.map fun j => (intsOf ys).getD j.toNat 0).map .int)
  | _ => .none
def hFst (o : List Int) : PyData → PyData
  | .tuple [w, .tuple ys] => .tuple [w, .tuple ((o.map fun j => (intsOf ys).getD j.toNat 0).map .int)]
  | _ => .none
def hSnd (o : List Int) : PyData → PyData
  | .tuple [w, .tuple ys] => .tuple [w, .tuple ((intsOf ys).map fun x => .int ((o.idxOf x : Nat) : Int))]
  | _ => .none
def hGet (r : List Int) : PyData → PyData
  | .int j => .int (r.getD j.toNat 0)
  | _ => .none
def hIdx (o : List Int) : PyData → PyData
  | .int x => .int ((o.idxOf x : Nat) : Int)
  | _ => .none
def blk (ps : List (Int × List Int)) (fs : List (List Int)) : List (Int × List Int) := (List.range ps.length).map fun (j : Nat) => ((ps.getD j (0, [])).1, fs.getD j [])
def whl (n : Nat) (ps : List (Int × List Int)) (fs : List (List Int)) : List (Int × List Int) := (List.range ps.length).map fun (j : Nat) => ((ps.getD j (0, [])).1, (ps.getD j (0, [])).2 ++ (fs.getD j []).map fun k => (n : Int) + k)
def hBlk (ps : List (Int × List Int)) (fs : List (List Int)) : PyData → PyData
  | .int j => wpD ((ps.getD j.toNat (0, [])).1, fs.getD j.toNat [])
  | _ => .none
def hWhl (n : Nat) (ps : List (Int × List Int)) (fs : List (List Int)) : PyData → PyData
  | .int j => wpD ((ps.getD j.toNat (0, [])).1, (ps.getD j.toNat (0, [])).2 ++ (fs.getD j.toNat []).map fun k => (n : Int) + k)
  | _ => .none
def hAdd (n : Nat) : PyData → PyData
  | .int k => .int ((n : Int) + k)
  | _ => .none
def hOd2 (sq : List (List Int)) (a : Int) (i : Nat) : PyData → PyData
  | .int j => .int (at2 sq i j.toNat + (if (decide ((i : Int) = a) && decide (j = 0)) = true then 1 else 0))
  | _ => .none
def hOdd (n : Nat) (sq : List (List Int)) (a : Int) : PyData → PyData
  | .int i => .tuple ((List.range n).map fun (j : Nat) => .int (at2 sq i.toNat j + (if (decide (((i.toNat : Nat) : Int) = a) && decide ((j : Int) = 0)) = true then 1 else 0)))
  | _ => .none
theorem get_ints {r o : List Int} : (o.map PyData.int).map (hGet r) = (o.map fun j => r.getD j.toNat 0).map .int := by
  rw [List.map_map, List.map_map]; rfl
section
variable {P : Program} {w : World} {K : PySem.W.Frag} {mg : Str → Option Value} {base : Heap}
theorem ok32 (B : Bl mg) (D19 : Def K mg "_law_cell" s19 ["script", "k"]) (F19 : FnOk P w K mg base CX0 1 D19.f D19.fd ["script", "k"] (spD K (PureS f19))) (D20 : Def K mg "_law_box" s20 ["great"]) (F20 : FnOk P w K mg base CX0 1 D20.f D20.fd ["great"] (spD K S20))
    (D21 : Def K mg "_law_take" s21 ["box", "many"]) (F21 : FnOk P w K mg base CX0 1 D21.f D21.fd ["box", "many"] (spD K S21)) (D23 : Def K mg "_law_mixed" s23 ["box", "items"]) (F23 : FnOk P w K mg base CX0 2 D23.f D23.fd ["box", "items"] (spD K S23))
    (D26 : Def K mg "_law_added" s26 ["many", "pairs"]) (F26 : FnOk P w K mg base CX0 1 D26.f D26.fd ["many", "pairs"] (spD K (PureS f26))) (D28 : Def K mg "_law_pairs" s28 ["box", "many", "most"]) (F28 : FnOk P w K mg base CX0 3 D28.f D28.fd ["box", "many", "most"] (spD K S28))
    (D29 : Def K mg "_law_beside" s29 ["one", "other"]) (F29 : FnOk P w K mg base CX0 1 D29.f D29.fd ["one", "other"] (spD K (PureS f29))) (D31 : Def K mg "_law_square_right" s31 ["box", "square", "pairs", "strange", "way"]) (F31 : FnOk P w K mg base CX0 6 D31.f D31.fd ["box", "square", "pairs", "strange", "way"] (spD K S31))
    (D : Def K mg "law" s32 ["script"]) : FnOk P w K mg base CX0 7 D.f D.fd ["script"] (spD K (PureS f32)) := by
  refine fn_defT D.F sc32 (fun xs cs R ⟨_, _, d, ⟨_, _, e, _⟩, _⟩ => by rw [e]; rfl) fun cdv A outer s H E xs cs R hr ⟨hcs, _, d, ⟨ns, hns, hx, hd⟩, hR⟩ => ?_
  subst hcs hx hd
  have zl : (1000000 : Nat) ≤ sizeLine := by decide
  have hlt : ∀ {k : Nat}, k ≤ 1000000 → k ≤ sizeLine := fun h => Nat.le_trans h zl
  refine sd_for (xs := rgD 0 (if (if ((ns.length : Nat) : Int) < 4 then ((ns.length : Nat) : Int) else 4) > 2 then (if ((ns.length : Nat) : Int) < 4 then ((ns.length : Nat) : Int) else 4) else 2).toNat) (g := gName 1) (f := fName 1) (fun i ds' cs' => ds'.length = 28 ∧ ds'[0]? = some (some (.ro ns))) (pvi_range B.range (pva_cons (pv_max2 B.max (pva_cons pv_int (pva_cons (pv_min2 B.min (pva_cons pv_int (pva_cons (pv_lenR B.len (pva_cons (pv_var 0) pva_nil)) pva_nil))) pva_nil))) pva_nil) ?_) (pg_name (i := 1) sc32.nd rfl (by first | exact Or.inl rfl | exact Or.inr rfl)) gd_name ⟨rfl, rfl⟩ (fun i x ds' cs' hx ⟨hdl, hd0⟩ => ⟨_, rfl, ?_⟩) (fun ds' cs' _ => sd_ret (PV.pd pv_bl ⟨trivial, hR⟩)) .never
  · constructor <;> (split <;> split <;> omega)
  obtain ⟨hi, rfl⟩ := rgD_get hx
  have hi4 : i < 4 := by
    revert hi
    split <;> split <;> omega
  refine SD.weak (ds' := some (.ro ns) :: some (.d (.int (0 + (i : Nat)))) :: List.replicate 26 none) ?_ (by simp [hdl]) (fun j sv q => ?_)
  rotate_left
  · match j with
    | 0 => simp at q; subst q; rw [List.getElem?_set_ne (by decide)]; exact hd0
    | 1 =>
      have q' : (some (some (SV.d (.int (0 + (i : Nat))))) : Option (Option SV)) = some (some sv) := q
      cases q'
      have hl1 : 1 < ds'.length := by omega
      exact List.getElem?_set_self hl1
    | j + 2 =>
      have q' : (List.replicate 26 (none : Option SV))[j]? = some (some sv) := q
      rw [List.getElem?_replicate] at q'
      split at q' <;> cases q'
  -- box
  refine sd_asgD 2 (R := fun cs2 sv => ∃ m, Bs m 0 cs2 ∧ sv = .own m) (pd_call F20 (hr.mono (by decide)) D20.m D20.F.kp D20.b (pva_cons (pv_call F19 (hr.mono (by decide)) D19.m D19.F.kp D19.b (pva_cons (pv_var 0) (pva_cons (pv_var 1) pva_nil)) ⟨ns, _, by omega, by omega, rfl, rfl⟩) pva_nil) fun cs1 xs hh => ?_) (fun cs2 sv ⟨m, hB, e2⟩ => ?_) sc32.nd
  · obtain ⟨k1, k2⟩ := hh
    subst k1 k2
    refine ⟨by simp [noOwn], fun cc sv => ∃ b, BoxOk 0 b ∧ cc = bx b ∧ sv = .own 0, ⟨_, rfl, rfl, fun b hb => ⟨b, hb, rfl, rfl⟩⟩, fun cc sv ⟨b, hb, q1, q2⟩ => .inr ⟨.lst b, q1, q2, cs1.length, ⟨b, hb, by simp⟩, rfl⟩⟩
  subst e2
  -- way, great
  refine sd_par 3 4 (Ra := fun cs3 xs => Bs m 2 cs3 ∧ ∃ (wy : Int) (q : Bool), xs = [.d (.int wy), .d (.bool q)]) (pda_cons (Rs := fun cs1 x cs3 xs => Bs m 2 cs3 ∧ ∃ q : Bool, xs = [.d (.bool q)]) (qd_take D21 F21 (hr.mono (by decide)) hB (pva_cons (pv_var 2) (pva_cons pv_int pva_nil)) (by decide) ⟨by decide, by decide⟩) (fun cs1 x ⟨hB1, _⟩ => ?_) fun cs1 x cs3 xs ⟨_, r, _, _, h1⟩ ⟨h2, q, h3⟩ => ⟨h2, r, q, by rw [h1, h3]⟩) (fun cs3 xs ⟨hB3, wy, q, e3⟩ => ⟨_, _, e3, ?_⟩) (by first | rfl | exact sw_par rfl rfl rfl) sc32.nd
  · refine pda_cons (Ra := fun cs3 sv => Bs m 2 cs3 ∧ ∃ q : Bool, sv = .d (.bool q)) (Rs := fun cs1 x => Is cs1 []) (pd_and (Ra := fun cs3 sv => Bs m 2 cs3 ∧ ∃ q : Bool, sv = .d (.bool q)) (pd_eqI (qd_take D21 F21 (hr.mono (by decide)) hB1 (pva_cons (pv_var 2) (pva_cons pv_int pva_nil)) (by decide) ⟨by decide, by decide⟩) (fun _ _ _ => pv_int) fun cs3 x ⟨h1, r, _, _, h2⟩ => ⟨r, h2, h1, _, rfl⟩) (fun cs3 x ⟨h1, q, h2⟩ => ⟨q, h2, fun _ => ⟨h1, _, rfl⟩⟩) fun cs3 ⟨h1, _⟩ => pd_last (PV.pd (pv_eqI (pv_var 1) pv_int) ⟨h1, _, rfl⟩)) (fun _ _ _ => pda_nil ⟨rfl, rfl⟩) fun cs3 x cs4 xs ⟨h1, q, h2⟩ ⟨h3, h4⟩ => ⟨by rw [h3]; exact h1, q, by rw [h2, h4]⟩
  -- many
  refine sd_asgD 5 (R := fun cs4 sv => Bs m 3 cs4 ∧ ∃ n : Nat, 1 ≤ n ∧ n ≤ 6 ∧ sv = .d (.int (n : Nat))) (pv_if (p := q) (pvt_val (pv_var 4)) (fun _ => PV.pd pv_int ⟨hB3.mono (by decide), 6, by decide, by decide, rfl⟩) fun _ => pd_addI (Ra := Is cs3 (.d (.int 1))) (Rb := fun _ _ cs4 sv => Bs m 3 cs4 ∧ ∃ r : Int, 0 ≤ r ∧ r < 5 ∧ sv = .d (.int r)) pv_int (fun cs1 x ⟨h1, _⟩ => by subst h1; exact qd_take D21 F21 (hr.mono (by decide)) hB3 (pva_cons (pv_var 2) (pva_cons pv_int pva_nil)) (by decide) ⟨by decide, by decide⟩) fun cs1 x cs4 y ⟨_, h1⟩ ⟨h2, r, r0, r1, h3⟩ => ⟨1, r, h1, h3, h2, (1 + r).toNat, by omega, by omega, by congr 3; omega⟩) (fun cs4 sv ⟨hB4, n, n1, n2, e4⟩ => ?_) sc32.nd
  subst e4
  have hnm : ((n : Int) - 1) * ((n : Int) - 1) ≤ 25 ∧ 0 ≤ ((n : Int) - 1) * ((n : Int) - 1) := by
    have : (n : Int) - 1 = ((n - 1 : Nat) : Int) := by omega
    rw [this]
    have h2 : (n - 1) * (n - 1) ≤ 5 * 5 := Nat.mul_le_mul (by omega) (by omega)
    constructor
    · have : (((n - 1) * (n - 1) : Nat) : Int) ≤ 25 := by omega
      simpa using this
    · have : (0 : Int) ≤ (((n - 1) * (n - 1) : Nat) : Int) := by omega
      simpa using this
  generalize hmo : ((n : Int) - 1) * ((n : Int) - 1) + 1 = mo
  have hm1 : 1 ≤ mo ∧ mo ≤ 26 := by omega
  refine sd_asg 6 (sv := .d (.int mo)) (PV.eq (pv_add (pv_mul (pv_sub (pv_var 5) pv_int) (pv_sub (pv_var 5) pv_int) (.inl (by omega))) pv_int) (by rw [hmo])) ?_ sc32.nd
  obtain ⟨p9, hp9, hp92⟩ : ∃ p9 : Nat, (if 9 < mo then (9 : Int) else mo) = (p9 : Nat) ∧ p9 ≤ 50 := ⟨(if 9 < mo then (9 : Int) else mo).toNat, by split <;> omega, by split <;> omega⟩
  obtain ⟨p4, hp4, hp42⟩ : ∃ p4 : Nat, (if 4 < mo then (4 : Int) else mo) = (p4 : Nat) ∧ p4 ≤ 50 := ⟨(if 4 < mo then (4 : Int) else mo).toNat, by split <;> omega, by split <;> omega⟩
  -- pairs, strange
  refine sd_tup2 7 8 (Ra := fun cs5 xs => Bs m 2003 cs5 ∧ ∃ ps qs : List (Int × List Int), (∀ p ∈ ps, GoodP n p) ∧ ps.length ≤ 50 ∧ (∀ p ∈ qs, GoodP n p) ∧ qs.length ≤ 50 ∧ xs = [.d (.list (ps.map wpD)), .d (.list (qs.map wpD))])
    (pda_cons (Rs := fun cs1 x cs5 xs => Bs m 2003 cs5 ∧ ∃ qs : List (Int × List Int), (∀ p ∈ qs, GoodP n p) ∧ qs.length ≤ 50 ∧ xs = [.d (.list (qs.map wpD))]) (qd_pairs (k := n) (most := p9) D28 F28 (hr.mono (by decide)) hB4 (pva_cons (pv_var 2) (pva_cons (pv_var 5) (pva_cons (PV.eq (pv_min2 B.min (pva_cons (pv_var 6) (pva_cons pv_int pva_nil))) (by rw [hp9])) pva_nil))) ⟨n1, n2⟩ hp92 (by decide))
      (fun cs1 x ⟨hB1, _⟩ => PDA.imp (pda_one (qd_pairs (k := n) (most := p4) D28 F28 (hr.mono (by decide)) hB1 (pva_cons (pv_var 2) (pva_cons (pv_var 5) (pva_cons (PV.eq (pv_min2 B.min (pva_cons (pv_var 6) (pva_cons pv_int pva_nil))) (by rw [hp4])) pva_nil))) ⟨n1, n2⟩ hp42 (by decide))) fun cs5 xs ⟨sv, h1, h2, qs, h3, h4, h5⟩ => ⟨h2, qs, h3, by omega, by rw [h1, h5]⟩)
      fun cs1 x cs5 xs ⟨_, ps, h1, h2, h3⟩ ⟨h4, qs, h5, h6, h7⟩ => ⟨h4, ps, qs, h1, by omega, h5, h6, by rw [h3, h7]⟩) (fun cs5 xs ⟨hB5, ps, qs, gp, lp, gq, lq, e5⟩ => ⟨_, _, e5, ?_⟩) ?_ sc32.nd
  rotate_left
  · first | rfl | exact sw_none rfl rfl rfl
  have sP := addR_ok n1 n2 gp
  have sQ := addR_ok n1 n2 gq
  have lP : (addR n ps).length = n := (rect_addR n ps).len
  have lQ : (addR n qs).length = n := (rect_addR n qs).len
  have wP : ∀ p ∈ ps, WP n p := fun p hp => (gp p hp).wp
  have wQ : ∀ p ∈ qs, WP n p := fun p hp => (gq p hp).wp
  have zP : ∀ p ∈ ps, p.2.length ≤ 60 := fun p hp => (gp p hp).len n2
  have zQ : ∀ p ∈ qs, p.2.length ≤ 60 := fun p hp => (gq p hp).len n2
  -- square, other
  have a26 : ∀ {l : List (Int × List Int)}, (∀ p ∈ l, GoodP n p) → f26 [.d (.int n), .d (.list (l.map wpD))] (sqD (addR n l)) := fun {l} h => ⟨n, .list (l.map wpD), l.map wpD, n2, .inl rfl, fun x hx => by
    obtain ⟨p, hp, rfl⟩ := List.mem_map.mp hx
    exact (h p hp).pin, rfl, by rw [pairsOf_wps]⟩
  refine sd_tup2 9 10 (Ra := Is cs5 [.d (sqD (addR n ps)), .d (sqD (addR n qs))]) (pva_cons (pv_call F26 (hr.mono (by decide)) D26.m D26.F.kp D26.b (pva_cons (pv_var 5) (pva_cons (pv_var 7) pva_nil)) (a26 gp)) (pva_cons (pv_call F26 (hr.mono (by decide)) D26.m D26.F.kp D26.b (pva_cons (pv_var 5) (pva_cons (pv_var 8) pva_nil)) (a26 gq)) pva_nil)) (fun cs6 xs ⟨e6, e7⟩ => ⟨_, _, e7, ?_⟩) ?_ sc32.nd
  rotate_left
  · first | rfl | exact sw_none rfl rfl rfl
  subst e6
  refine sd_as [some (.ro ns), some (.d (.int (0 + (i : Nat)))), some (.own m), some (.d (.int wy)), some (.d (.bool q)), some (.d (.int (n : Nat))), some (.d (.int mo)), some (.d (.list (ps.map wpD))), some (.d (.list (qs.map wpD))), some (.d (sqD (addR n ps))), some (.d (sqD (addR n qs))), none, none, none, none, none, none, none, none, none, none, none, none, none, none, none, none, none] rfl ?_
  refine sd_ifNoE (Rc := fun cs' b => b = false ∧ Bs m 4003 cs') (pdt_or (qt_sq D31 F31 (hr.mono (by decide)) hB5 (pva_cons (pv_var 2) (pva_cons (pv_var 9) (pva_cons (pv_var 7) (pva_cons (pv_var 8) (pva_cons (pv_var 3) pva_nil))))) sP (.inr ⟨ps, rfl, lp, by rw [lP]; exact wP⟩) zQ lq (by decide)) (fun cs1 ⟨h, _⟩ => by cases h) fun cs1 ⟨_, hB⟩ => pdw_or1 (qt_sq D31 F31 (hr.mono (by decide)) hB (pva_cons (pv_var 2) (pva_cons (pv_var 10) (pva_cons (pv_var 8) (pva_cons (pv_var 7) (pva_cons (pv_sub pv_int (pv_var 3)) pva_nil))))) sQ (.inr ⟨qs, rfl, lq, by rw [lQ]; exact wQ⟩) zP lp (by decide))) (fun cs1 ⟨h, _⟩ => by cases h) fun cs7 ⟨_, hB7⟩ => ?_
  -- order
  refine sd_asgD 11 (R := fun cs8 sv => Bs m 4009 cs8 ∧ ∃ o : List Int, o.Perm (rangeI n) ∧ sv = .d (.list (o.map .int))) (qd_mixed (k := n) D23 F23 (hr.mono (by decide)) hB7 (pva_cons (pv_var 2) (pva_cons (PV.eq (pv_listRange B.list B.range (pv_var 5) ⟨by omega, by omega⟩) (by rw [← rgD_rangeI]; rfl)) pva_nil)) n2 (by decide)) (fun cs8 sv ⟨hB8, o, ho, e8⟩ => ?_) sc32.nd
  subst e8
  obtain ⟨ol, olo⟩ := ord_get ho
  generalize hsq : addR n ps = sq at sP lP
  have hrl : ∀ r ∈ sq, r.length = n := fun r hr2 => by rw [sP.len r hr2, lP]
  have oin : ∀ y ∈ o.map PyData.int, ∃ j : Nat, y = .int (j : Nat) ∧ j < n := fun y hy => by
    obtain ⟨j, hj, rfl⟩ := List.mem_map.mp hy
    have := olo j hj
    exact ⟨j.toNat, by congr 1; omega, this.2⟩
  have hP' : o.Perm (rangeI sq.length) := by rw [lP]; exact ho
  -- turned
  refine sd_asg 12 (sv := .d (sqD (turnR sq o))) (PV.eq (pv_tupleL B.tuple (pva_cons (pv_lc (own := [("j", 13)]) (g := gName 13) (h := hTurn sq) (pvi_list (pv_var 11)) (blkOk_by (by kernel_rfl)) (fun _ _ _ _ _ => pg_name (i := 13) sc32.nd rfl (by first | exact Or.inl rfl | exact Or.inr rfl)) gd_name (by decide) (fun x hx => ?_) ?_ sc32.nd) pva_nil)) ?_) ?_ sc32.nd
  · obtain ⟨j, rfl, hj⟩ := oin x hx
    refine ⟨_, rfl, fun s H C cl fp => pv_ixT (xs := sq.map rowD) (pv_var 9) (pv_var 13) (atI_nat ?_)⟩
    have hjl : j < sq.length := by omega
    simp [hTurn, List.getD_eq_getElem?_getD, hjl]
  · rw [List.length_map]; omega
  · unfold sqD turnR
    rw [List.map_map, List.map_map]; rfl
  -- across
  refine sd_asg 14 (sv := .d (sqD (acrR sq o))) (PV.eq (pv_tupleL B.tuple (pva_cons (pv_lc (own := [("line", 15)]) (g := gName 15) (h := hAcr o) (pvi_tup (pv_var 9)) (blkOk_by (by kernel_rfl)) (fun _ _ _ _ _ => pg_name (i := 15) sc32.nd rfl (by first | exact Or.inl rfl | exact Or.inr rfl)) gd_name (by decide) (fun x hx => ?_) ?_ sc32.nd) pva_nil)) ?_) ?_ sc32.nd
  · obtain ⟨r, hr1, rfl⟩ := List.mem_map.mp hx
    refine ⟨_, rfl, fun s H C cl fp => ?_⟩
    refine PV.eq (pv_tupleL B.tuple (pva_cons (pv_lc (own := [("j", 13)]) (g := gName 13) (h := hGet r) (pvi_list (pv_var 11)) (blkOk_by (by kernel_rfl)) (fun _ _ _ _ _ => pg_name (i := 13) sc32.nd rfl (by first | exact Or.inl rfl | exact Or.inr rfl)) gd_name (by decide) (fun x hx => ?_) ?_ sc32.nd) pva_nil)) ?_
    · obtain ⟨j, rfl, hj⟩ := oin x hx
      refine ⟨_, rfl, fun s H C cl fp => pv_ixT (xs := r.map .int) (pv_var 15) (pv_var 13) (atI_nat ?_)⟩
      have hjl : j < r.length := by rw [hrl r hr1]; exact hj
      simp [hGet, List.getD_eq_getElem?_getD, hjl]
    · rw [List.length_map]; omega
    · rw [get_ints]
      unfold rowD hAcr
      simp only
      rw [intsOf_map]
  · rw [List.length_map]; omega
  · unfold sqD acrR
    rw [List.map_map, List.map_map]
    congr 2
    apply List.map_congr_left
    intro r _
    unfold rowD hAcr
    show PyData.tuple ((o.map fun j => (intsOf (r.map .int)).getD j.toNat 0).map .int) = .tuple ((o.map fun j => r.getD j.toNat 0).map .int)
    rw [intsOf_map]
  -- first
  refine sd_asgLc 16 (own := [("weight", 17), ("places", 18)]) (f := fPair 17 18) (h := hFst o) (pvi_list (pv_var 7)) (blkOk_by (by kernel_rfl)) (fun _ _ _ _ _ => pg_pair 17 18 sc32.nd rfl rfl (by first | exact Or.inl rfl | exact Or.inr rfl) (by first | exact Or.inl rfl | exact Or.inr rfl)) gd_pair (by decide) (fun x hx => ?_) ?_ ?_ sc32.nd
  · obtain ⟨p, hp, rfl⟩ := List.mem_map.mp hx
    have hpl := (wP p hp).len
    refine ⟨_, rfl, fun s H C cl fp => ?_⟩
    refine PV.eq (pv_tup [.int p.1, .tuple ((o.map fun j => p.2.getD j.toNat 0).map .int)] (pva_cons (pv_var 17) (pva_cons (PV.eq (pv_tupleL B.tuple (pva_cons (pv_lc (own := [("j", 13)]) (g := gName 13) (h := hGet p.2) (pvi_list (pv_var 11)) (blkOk_by (by kernel_rfl)) (fun _ _ _ _ _ => pg_name (i := 13) sc32.nd rfl (by first | exact Or.inl rfl | exact Or.inr rfl)) gd_name (by decide) (fun x hx => ?_) ?_ sc32.nd) pva_nil)) (by rw [get_ints])) pva_nil)) rfl (hlt (by simp))) ?_
    · obtain ⟨j, rfl, hj⟩ := oin x hx
      refine ⟨_, rfl, fun s H C cl fp => pv_ixT (xs := p.2.map .int) (pv_var 18) (pv_var 13) (atI_nat ?_)⟩
      have hjl : j < p.2.length := by omega
      simp [hGet, List.getD_eq_getElem?_getD, hjl]
    · rw [List.length_map]; omega
    · unfold wpD hFst
      simp only
      rw [intsOf_map]
  · rw [List.length_map]; omega
  have e1st : (ps.map wpD).map (hFst o) = (ps.map fun p => ((p.1, o.map fun j => p.2.getD j.toNat 0) : Int × List Int)).map wpD := by
    rw [List.map_map, List.map_map]
    apply List.map_congr_left
    intro p _
    show hFst o (wpD p) = wpD _
    unfold wpD hFst
    simp only
    rw [intsOf_map]
  rw [e1st]
  -- second
  refine sd_asgLc 19 (own := [("weight", 17), ("places", 18)]) (f := fPair 17 18) (h := hSnd o) (pvi_list (pv_var 7)) (blkOk_by (by kernel_rfl)) (fun _ _ _ _ _ => pg_pair 17 18 sc32.nd rfl rfl (by first | exact Or.inl rfl | exact Or.inr rfl) (by first | exact Or.inl rfl | exact Or.inr rfl)) gd_pair (by decide) (fun x hx => ?_) ?_ ?_ sc32.nd
  · obtain ⟨p, hp, rfl⟩ := List.mem_map.mp hx
    have hpp := (gp p hp).2
    refine ⟨_, rfl, fun s H C cl fp => ?_⟩
    refine PV.eq (pv_tup [.int p.1, .tuple (p.2.map fun x => .int ((o.idxOf x : Nat) : Int))] (pva_cons (pv_var 17) (pva_cons (PV.eq (pv_tupleL B.tuple (pva_cons (pv_lc (own := [("one", 20)]) (g := gName 20) (h := hIdx o) (pvi_tup (pv_var 18)) (blkOk_by (by kernel_rfl)) (fun _ _ _ _ _ => pg_name (i := 20) sc32.nd rfl (by first | exact Or.inl rfl | exact Or.inr rfl)) gd_name (by decide) (fun x hx => ?_) ?_ sc32.nd) pva_nil)) (by rw [List.map_map]; rfl)) pva_nil)) rfl (hlt (by simp))) ?_
    · obtain ⟨y, hy, rfl⟩ := List.mem_map.mp hx
      have hyo : y ∈ o := ho.mem_iff.mpr (hpp.mem_iff.mp hy)
      refine ⟨_, rfl, fun s H C cl fp => PV.eq (pv_index (xs := o.map .int) (j := o.idxOf y) (y := .int y) (d := .int y) (pv_var 11) (pva_cons (pv_var 20) pva_nil) rfl (fun x hx => by obtain ⟨z, _, rfl⟩ := List.mem_map.mp hx; rfl) ?_ ?_ fun k z hk hz => ?_) rfl⟩
      · rw [List.getElem?_map, List.getElem?_eq_getElem (List.idxOf_lt_length_of_mem hyo), List.getElem_idxOf]; rfl
      · rw [eqv_int]; simp
      · rw [List.getElem?_map] at hz
        cases hq : o[k]? with
        | none => rw [hq] at hz; cases hz
        | some z' =>
          rw [hq] at hz
          cases hz
          rw [eqv_int]
          refine decide_eq_false fun e => ?_
          subst e
          have h2 := (List.getElem?_eq_some_iff.mp hq).1
          have e1 : o[o.idxOf z']? = some z' := by rw [List.getElem?_eq_getElem (List.idxOf_lt_length_of_mem hyo), List.getElem_idxOf]
          have := (List.getElem?_inj h2 (of_perm ho).2).mp (hq.trans e1.symm)
          omega
    · rw [List.length_map]; have := (wP p hp).len; omega
    · unfold wpD hSnd
      simp only
      rw [intsOf_map]
  · rw [List.length_map]; omega
  have e2nd : (ps.map wpD).map (hSnd o) = (ps.map fun p => ((p.1, p.2.map fun x => ((o.idxOf x : Nat) : Int)) : Int × List Int)).map wpD := by
    rw [List.map_map, List.map_map]
    apply List.map_congr_left
    intro p _
    show hSnd o (wpD p) = wpD _
    unfold wpD hSnd
    simp only
    rw [intsOf_map, List.map_map]; rfl
  rw [e2nd]
  refine sd_as [some (.ro ns), some (.d (.int (0 + (i : Nat)))), some (.own m), some (.d (.int wy)), some (.d (.bool q)), some (.d (.int (n : Nat))), some (.d (.int mo)), some (.d (.list (ps.map wpD))), some (.d (.list (qs.map wpD))), some (.d (sqD sq)), some (.d (sqD (addR n qs))), some (.d (.list (o.map .int))), some (.d (sqD (turnR sq o))), none, some (.d (sqD (acrR sq o))), none, some (.d (.list ((ps.map fun p => ((p.1, o.map fun j => p.2.getD j.toNat 0) : Int × List Int)).map wpD))), none, none, some (.d (.list ((ps.map fun p => ((p.1, p.2.map fun x => ((o.idxOf x : Nat) : Int)) : Int × List Int)).map wpD))), none, none, none, none, none, none, none, none] rfl ?_
  obtain ⟨sT, lT⟩ := turn_ok sP hP'
  obtain ⟨sA, lA⟩ := acr_ok sP hP'
  refine sd_ifNoE (Rc := fun cs' b => b = false ∧ Bs m 6009 cs') (pdt_or (qt_sq D31 F31 (hr.mono (by decide)) hB8 (pva_cons (pv_var 2) (pva_cons (pv_var 12) (pva_cons (pv_var 16) (pva_cons (pv_var 7) (pva_cons (pv_var 3) pva_nil))))) sT (.inr ⟨_, rfl, by rw [List.length_map]; exact lp, fun p hp => ?_⟩) zP lp (by decide)) (fun cs1 ⟨h, _⟩ => by cases h) fun cs1 ⟨_, hB⟩ => pdw_or1 (qt_sq D31 F31 (hr.mono (by decide)) hB (pva_cons (pv_var 2) (pva_cons (pv_var 14) (pva_cons (pv_var 19) (pva_cons (pv_var 7) (pva_cons (pv_var 3) pva_nil))))) sA (.inr ⟨_, rfl, by rw [List.length_map]; exact lp, fun p hp => ?_⟩) zP lp (by decide))) (fun cs1 ⟨h, _⟩ => by cases h) fun cs9 ⟨_, hB9⟩ => ?_
  · obtain ⟨p0, hp0, rfl⟩ := List.mem_map.mp hp
    exact ⟨(gp p0 hp0).1, by rw [lT, lP]; simp [ol]⟩
  · obtain ⟨p0, hp0, rfl⟩ := List.mem_map.mp hp
    exact ⟨(gp p0 hp0).1, by rw [lA, lP]; simp [(wP p0 hp0).len]⟩
  have hps : ∀ {j : Nat}, j < ps.length → ∃ p, ps[j]? = some p ∧ p ∈ ps ∧ ps.getD j (0, []) = p := fun {j} hj => ⟨ps[j], by simp [hj], List.getElem_mem hj, by simp [List.getD_eq_getElem?_getD, hj]⟩
  refine sd_if (p := decide (2 * (n : Int) < 7)) (M := fun ds' cs' => Bs m 12000 cs' ∧ ∃ a20 a21 a22 a23 a24 : Option SV, ds' = [some (.ro ns), some (.d (.int (0 + (i : Nat)))), some (.own m), some (.d (.int wy)), some (.d (.bool q)), some (.d (.int (n : Nat))), some (.d (.int mo)), some (.d (.list (ps.map wpD))), some (.d (.list (qs.map wpD))), some (.d (sqD sq)), some (.d (sqD (addR n qs))), some (.d (.list (o.map .int))), some (.d (sqD (turnR sq o))), none, some (.d (sqD (acrR sq o))), none, some (.d (.list ((ps.map fun p => ((p.1, o.map fun j => p.2.getD j.toNat 0) : Int × List Int)).map wpD))), none, none, some (.d (.list ((ps.map fun p => ((p.1, p.2.map fun x => ((o.idxOf x : Nat) : Int)) : Int × List Int)).map wpD))), a20, a21, a22, a23, a24, none, none, none]) (pvt_lt (pv_mul pv_int (pv_var 5) (.inl (by decide))) pv_int) (fun hp7 => ?_) (fun _ => sd_nil ⟨hB9.mono (by decide), _, _, _, _, _, rfl⟩) fun ds' cs' ⟨hB10, a20, a21, a22, a23, a24, e10⟩ => ?_
  · have hn3 : n ≤ 3 := by have := of_decide_eq_true hp7; omega
    refine sd_asgD 21 (R := fun cs' sv => Bs m 6500 cs' ∧ ∃ fs : List (List Int), fs.length = ps.length ∧ (∀ f ∈ fs, f.Perm (rangeI n)) ∧ sv = .d (.list (fs.map fun f => .tuple (f.map .int)))) (pd_lc (own := [("pair", 22)]) (g := gName 22) (f := fName 22) (I := fun i acc cs' => Bs m (6009 + 6 * i) cs' ∧ ∃ fs : List (List Int), fs.length = i ∧ (∀ f ∈ fs, f.Perm (rangeI n)) ∧ acc = fs.map fun f => .tuple (f.map .int)) (T := fun i acc cs' b => b = true ∧ Bs m (6009 + 6 * i) cs' ∧ ∃ fs : List (List Int), fs.length = i ∧ (∀ f ∈ fs, f.Perm (rangeI n)) ∧ acc = fs.map fun f => .tuple (f.map .int)) (pvi_list (pv_var 7)) (blkOk_by (by kernel_rfl)) (fun _ _ _ _ _ => pg_name (i := 22) sc32.nd rfl (by first | exact Or.inl rfl | exact Or.inr rfl)) gd_name (by decide) ⟨fun i x acc cs1 _ _ => ⟨_, rfl⟩, fun i x acc cs1 ds' hx hI hf s H C cl fp => pvts_nil ⟨rfl, hI⟩, fun i acc cs2 ⟨h, _⟩ => (by cases h), fun i x acc cs2 ds' hx ⟨_, hB, fs, f1, f2, f3⟩ hf s H C cl fp => ?_⟩ ⟨hB9, [], rfl, fun f hf => (by cases hf), rfl⟩ (fun acc cs' hh => ?_) (by rw [List.length_map]; omega) sc32.nd) (fun cs11 sv ⟨hB11, fs, f1, f2, f3⟩ => ?_) sc32.nd
    · have hil := (List.getElem?_eq_some_iff.mp hx).1
      rw [List.length_map] at hil
      cases hf
      refine pd_tupleL B.tuple (pda_one (qd_mixed (k := n) D23 F23 (hr.mono (by decide)) hB (pva_cons (pv_var 2) (pva_cons (PV.eq (pv_listRange B.list B.range (pv_var 5) ⟨by omega, by omega⟩) (by rw [← rgD_rangeI]; rfl)) pva_nil)) n2 (by omega))) fun cs1 ys hh => ?_
      obtain ⟨sv, h1, h2, o', h3, h4⟩ := hh
      refine ⟨o'.map .int, by rw [h1, h4], _, rfl, h2.mono (by omega), fs ++ [o'], by rw [List.length_append, f1]; rfl, fun f hf => ?_, by rw [f3]; simp⟩
      rcases List.mem_append.mp hf with hf | hf
      · exact f2 f hf
      · simp at hf
        subst hf
        exact h3
    · obtain ⟨h1, fs, f1, f2, f3⟩ := hh
      rw [List.length_map] at h1 f1
      exact ⟨h1.mono (by omega), fs, f1, f2, by rw [f3]⟩
    subst f3
    have hfs : ∀ {j : Nat}, j < ps.length → ∃ f, fs[j]? = some f ∧ f ∈ fs ∧ fs.getD j [] = f := fun {j} hj => by
      have hj' : j < fs.length := by omega
      exact ⟨fs[j], by simp [hj'], List.getElem_mem hj', by simp [List.getD_eq_getElem?_getD, hj']⟩
    have gbl : ∀ p ∈ blk ps fs, GoodP n p := fun p hp => by
      obtain ⟨j, hj, rfl⟩ := List.mem_map.mp hp
      obtain ⟨p0, q1, q2, q3⟩ := hps (List.mem_range.mp hj)
      obtain ⟨f0, r1, r2, r3⟩ := hfs (List.mem_range.mp hj)
      rw [q3, r3]
      exact ⟨(gp p0 q2).1, f2 f0 r2⟩
    -- block
    refine sd_asg 23 (sv := .d (sqD (addR n (blk ps fs)))) (pv_call F26 (hr.mono (by decide)) D26.m D26.F.kp D26.b (pva_cons (pv_var 5) (pva_cons (PV.eq (sv' := .d (.list ((blk ps fs).map wpD))) (pv_lc (own := [("j", 13)]) (g := gName 13) (h := hBlk ps fs) (pvi_range B.range (pva_cons (PV.eq (pv_lenL B.len (pva_cons (pv_var 7) pva_nil)) (by rw [List.length_map])) pva_nil) ⟨by omega, by omega⟩) (blkOk_by (by kernel_rfl)) (fun _ _ _ _ _ => pg_name (i := 13) sc32.nd rfl (by first | exact Or.inl rfl | exact Or.inr rfl)) gd_name (by decide) (fun x hx => ?_) (by rw [rgD_length]; omega) sc32.nd) ?_) pva_nil)) (a26 gbl)) ?_ sc32.nd
    · obtain ⟨j, hj⟩ := List.mem_iff_getElem?.mp hx
      obtain ⟨hjn, rfl⟩ := rgD_get hj
      have hjn' : j < ps.length := by omega
      have ej : (0 : Int) + (j : Nat) = (j : Nat) := by omega
      rw [ej]
      obtain ⟨p0, q1, q2, q3⟩ := hps hjn'
      obtain ⟨f0, r1, r2, r3⟩ := hfs hjn'
      refine ⟨_, rfl, fun s H C cl fp => PV.eq (pv_tup [.int p0.1, .tuple (f0.map .int)] (pva_cons (pv_ixT (xs := [.int p0.1, .tuple (p0.2.map .int)]) (pv_ixL (pv_var 7) (pv_var 13) (atI_nat (by rw [List.getElem?_map, q1]; rfl))) pv_int (atI_nat (j := 0) rfl)) (pva_cons (pv_ixL (pv_var 21) (pv_var 13) (atI_nat (by rw [List.getElem?_map, r1]; rfl))) pva_nil)) rfl (hlt (by simp))) ?_⟩
      simp only [hBlk, Int.toNat_natCast, q3, r3]
      rfl
    · unfold rgD blk
      rw [List.map_map, List.map_map, Int.toNat_natCast]
      congr 2
      apply List.map_congr_left
      intro j _
      simp [hBlk]
    -- whole
    refine sd_asgLc 24 (own := [("j", 13)]) (g := gName 13) (h := hWhl n ps fs) (pvi_range B.range (pva_cons (PV.eq (pv_lenL B.len (pva_cons (pv_var 7) pva_nil)) (by rw [List.length_map])) pva_nil) ⟨by omega, by omega⟩) (blkOk_by (by kernel_rfl)) (fun _ _ _ _ _ => pg_name (i := 13) sc32.nd rfl (by first | exact Or.inl rfl | exact Or.inr rfl)) gd_name (by decide) (fun x hx => ?_) (by rw [rgD_length]; omega) ?_ sc32.nd
    · obtain ⟨j, hj⟩ := List.mem_iff_getElem?.mp hx
      obtain ⟨hjn, rfl⟩ := rgD_get hj
      have hjn' : j < ps.length := by omega
      have ej : (0 : Int) + (j : Nat) = (j : Nat) := by omega
      rw [ej]
      obtain ⟨p0, q1, q2, q3⟩ := hps hjn'
      obtain ⟨f0, r1, r2, r3⟩ := hfs hjn'
      have hl0 := (wP p0 q2).len
      have hf0 := (ord_get (f2 f0 r2)).1
      refine ⟨_, rfl, fun s H C cl fp => PV.eq (pv_tup [.int p0.1, .tuple ((p0.2 ++ f0.map fun k => (n : Int) + k).map .int)] (pva_cons (pv_ixT (xs := [.int p0.1, .tuple (p0.2.map .int)]) (pv_ixL (pv_var 7) (pv_var 13) (atI_nat (by rw [List.getElem?_map, q1]; rfl))) pv_int (atI_nat (j := 0) rfl)) (pva_cons (PV.eq (pv_catT (xs := p0.2.map .int) (ys := (f0.map fun k => (n : Int) + k).map .int) (pv_ixT (xs := [.int p0.1, .tuple (p0.2.map .int)]) (pv_ixL (pv_var 7) (pv_var 13) (atI_nat (by rw [List.getElem?_map, q1]; rfl))) pv_int (atI_nat (j := 1) rfl)) (PV.eq (pv_tupleL B.tuple (pva_cons (pv_lc (own := [("one", 20)]) (g := gName 20) (h := hAdd n) (pvi_tup (pv_ixL (pv_var 21) (pv_var 13) (atI_nat (by rw [List.getElem?_map, r1]; rfl)))) (blkOk_by (by kernel_rfl)) (fun _ _ _ _ _ => pg_name (i := 20) sc32.nd rfl (by first | exact Or.inl rfl | exact Or.inr rfl)) gd_name (by decide) (fun x hx => ?_) (by rw [List.length_map]; omega) sc32.nd) pva_nil)) (by rw [List.map_map, List.map_map]; rfl)) (hlt (by simp; omega))) (by rw [← List.map_append])) pva_nil)) rfl (hlt (by simp))) ?_⟩
      · obtain ⟨y, hy, rfl⟩ := List.mem_map.mp hx
        exact ⟨_, rfl, fun s H C cl fp => pv_add (pv_var 5) (pv_var 20)⟩
      · simp only [hWhl, Int.toNat_natCast, q3, r3]
        rfl
    have ewh : (rgD 0 ((ps.length : Nat) : Int).toNat).map (hWhl n ps fs) = (whl n ps fs).map wpD := by
      unfold rgD whl
      rw [List.map_map, List.map_map, Int.toNat_natCast]
      apply List.map_congr_left
      intro j _
      simp [hWhl]
    rw [ewh]
    refine sd_as [some (.ro ns), some (.d (.int (0 + (i : Nat)))), some (.own m), some (.d (.int wy)), some (.d (.bool q)), some (.d (.int (n : Nat))), some (.d (.int mo)), some (.d (.list (ps.map wpD))), some (.d (.list (qs.map wpD))), some (.d (sqD sq)), some (.d (sqD (addR n qs))), some (.d (.list (o.map .int))), some (.d (sqD (turnR sq o))), none, some (.d (sqD (acrR sq o))), none, some (.d (.list ((ps.map fun p => ((p.1, o.map fun j => p.2.getD j.toNat 0) : Int × List Int)).map wpD))), none, none, some (.d (.list ((ps.map fun p => ((p.1, p.2.map fun x => ((o.idxOf x : Nat) : Int)) : Int × List Int)).map wpD))), none, some (.d (.list (fs.map fun f => .tuple (f.map .int)))), none, some (.d (sqD (addR n (blk ps fs)))), some (.d (.list ((whl n ps fs).map wpD))), none, none, none] rfl ?_
    have sB := addR_ok n1 n2 gbl
    have lB : (addR n (blk ps fs)).length = n := (rect_addR n _).len
    obtain ⟨sW, lW⟩ := bes_ok sP sB (by omega)
    refine sd_ifNoE (qt_sq D31 F31 (hr.mono (by decide)) hB11 (pva_cons (pv_var 2) (pva_cons (pv_call F29 (hr.mono (by decide)) D29.m D29.F.kp D29.b (pva_cons (pv_var 9) (pva_cons (pv_var 23) pva_nil)) ⟨sq, addR n (blk ps fs), by omega, by omega, by omega, by omega, fun r hr2 => by rw [hrl r hr2]; exact n2, fun r hr2 => by rw [sB.len r hr2, lB]; exact n2, rfl, rfl⟩) (pva_cons (pv_var 24) (pva_cons (pv_var 7) (pva_cons (pv_var 3) pva_nil))))) sW (.inr ⟨whl n ps fs, rfl, by simp [whl]; exact lp, fun p hp => ?_⟩) zP lp (by decide)) (fun cs1 ⟨h, _⟩ => by cases h) fun cs12 ⟨_, hB12⟩ => sd_nil ⟨hB12.mono (by decide), _, _, _, _, _, rfl⟩
    obtain ⟨j, hj, rfl⟩ := List.mem_map.mp hp
    obtain ⟨p0, q1, q2, q3⟩ := hps (List.mem_range.mp hj)
    obtain ⟨f0, r1, r2, r3⟩ := hfs (List.mem_range.mp hj)
    rw [q3, r3, lW, lP, lB]
    exact ⟨(gp p0 q2).1, by simp [(wP p0 q2).len, (ord_get (f2 f0 r2)).1]⟩
  subst e10
  -- at, odd
  refine sd_asgD 25 (R := fun cs' sv => Bs m 12001 cs' ∧ ∃ a : Int, sv = .d (.int a)) (PD.imp (qd_take (n := (n : Int)) D21 F21 (hr.mono (by decide)) hB10 (pva_cons (pv_var 2) (pva_cons (pv_var 5) pva_nil)) (by decide) ⟨by omega, by omega⟩) fun cs' sv ⟨h1, r, _, _, h2⟩ => ⟨h1, r, h2⟩) (fun cs13 sv ⟨hB13, a, e13⟩ => ?_) sc32.nd
  subst e13
  refine sd_asg 26 (sv := .d (sqD (oddR n sq a))) (PV.eq (pv_tupleL B.tuple (pva_cons (pv_lc (own := [("i", 27)]) (g := gName 27) (h := hOdd n sq a) (pvi_range B.range (pva_cons (pv_var 5) pva_nil) ⟨by omega, by omega⟩) (blkOk_by (by kernel_rfl)) (fun _ _ _ _ _ => pg_name (i := 27) sc32.nd rfl (by first | exact Or.inl rfl | exact Or.inr rfl)) gd_name (by decide) (fun x hx => ?_) (by rw [rgD_length]; omega) sc32.nd) pva_nil)) ?_) ?_ sc32.nd
  · obtain ⟨j, hj⟩ := List.mem_iff_getElem?.mp hx
    obtain ⟨hjn, rfl⟩ := rgD_get hj
    have hjn' : j < sq.length := by omega
    have ej : (0 : Int) + (j : Nat) = (j : Nat) := by omega
    rw [ej]
    have hrj : sq[j]? = some sq[j] := by simp [hjn']
    have hlj := hrl sq[j] (List.getElem_mem hjn')
    refine ⟨_, rfl, fun s H C cl fp => PV.eq (pv_tupleL B.tuple (pva_cons (pv_lc (own := [("j", 13)]) (g := gName 13) (h := hOd2 sq a j) (pvi_range B.range (pva_cons (pv_var 5) pva_nil) ⟨by omega, by omega⟩) (blkOk_by (by kernel_rfl)) (fun _ _ _ _ _ => pg_name (i := 13) sc32.nd rfl (by first | exact Or.inl rfl | exact Or.inr rfl)) gd_name (by decide) (fun x hx => ?_) (by rw [rgD_length]; omega) sc32.nd) pva_nil)) ?_⟩
    · obtain ⟨k, hk⟩ := List.mem_iff_getElem?.mp hx
      obtain ⟨hkn, rfl⟩ := rgD_get hk
      have ek : (0 : Int) + (k : Nat) = (k : Nat) := by omega
      rw [ek]
      have hkl : k < sq[j].length := by omega
      have hrk : sq[j][k]? = some sq[j][k] := by simp [hkl]
      refine ⟨_, rfl, fun s H C cl fp => PV.eq (pv_add (pv_ixT (xs := sq[j].map .int) (d := .int sq[j][k]) (pv_ixT (xs := sq.map rowD) (pv_var 9) (pv_var 27) (atI_nat (by rw [List.getElem?_map, hrj]; rfl))) (pv_var 13) (atI_nat (by rw [List.getElem?_map, hrk]; rfl))) (pv_intB B.int (pva_cons (pv_and (pv_eqI (pv_var 27) (pv_var 25)) fun _ => pd_last (pv_eqI (pv_var 13) pv_int)) pva_nil))) ?_⟩
      simp only [hOd2, Int.toNat_natCast]
      rw [at2_eq hrj hrk]
    · unfold rgD
      rw [List.map_map]
      simp only [hOdd, Int.toNat_natCast]
      congr 3
      funext k
      simp [hOd2]
  · unfold rgD sqD oddR
    rw [List.map_map, List.map_map]
    congr 2
    rw [Int.toNat_natCast]
    apply List.map_congr_left
    intro j _
    simp only [Function.comp, hOdd, rowD]
    congr 1
    rw [List.map_map]
    apply List.map_congr_left
    intro k _
    simp
  refine sd_as [some (.ro ns), some (.d (.int (0 + (i : Nat)))), some (.own m), some (.d (.int wy)), some (.d (.bool q)), some (.d (.int (n : Nat))), some (.d (.int mo)), some (.d (.list (ps.map wpD))), some (.d (.list (qs.map wpD))), some (.d (sqD sq)), some (.d (sqD (addR n qs))), some (.d (.list (o.map .int))), some (.d (sqD (turnR sq o))), none, some (.d (sqD (acrR sq o))), none, some (.d (.list ((ps.map fun p => ((p.1, o.map fun j => p.2.getD j.toNat 0) : Int × List Int)).map wpD))), none, none, some (.d (.list ((ps.map fun p => ((p.1, p.2.map fun x => ((o.idxOf x : Nat) : Int)) : Int × List Int)).map wpD))), a20, a21, a22, a23, a24, some (.d (.int a)), some (.d (sqD (oddR n sq a))), none] rfl ?_
  obtain ⟨sO, lO⟩ := odd_ok (a := a) sP
  rw [lP] at sO lO
  refine sd_ifNoE (Rc := fun cs' b => b = false) (pdt_and (Ra := Is cs13 (decide ((1 : Int) < n))) (pvt_gt (pv_var 5) pv_int) (fun cs1 _ => rfl) fun cs1 ⟨h1, _⟩ => ?_) (fun cs1 h => by cases h) fun cs14 _ => sd_nil ⟨rfl, rfl⟩
  subst h1
  exact pdw_and1 (PDT.imp (qt_sq D31 F31 (hr.mono (by decide)) hB13 (pva_cons (pv_var 2) (pva_cons (pv_var 26) (pva_cons pv_non (pva_cons (pv_var 7) (pva_cons (pv_var 3) pva_nil))))) sO (.inl rfl) zP lp (by decide)) fun cs' b h => h.1)
end
end K69
set_option Elab.async false
set_option linter.all false
set_option maxRecDepth 100000
set_option maxHeartbeats 8000000
namespace K69
open PySem PySem.Spec PyProof.Rows L2 DL

theorem all_mk {l : PySem.W.OpenLaw} {w : World} {K : PySem.W.Frag} {h : Heap} {mg : Str → Option Value} {fa : Addr} (X : K.In h) (G : h.Ns mainGlobals mg) (hfa : mg "law" = some (.ref fa))
    {g4 g5 g6 g7 g8 g11 g12 g13 g14 g15 g16 g17 g19 g20 g21 g22 g23 g24 g25 g26 g27 g28 g29 g30 g31 g32 : Addr} {od4 od5 od6 od7 od8 od11 od12 od13 od14 od15 od16 od17 od19 od20 od21 od22 od23 od24 od25 od26 od27 od28 od29 od30 od31 od32 an4 an5 an6 an7 an8 an11 an12 an13 an14 an15 an16 an17 an19 an20 an21 an22 an23 an24 an25 an26 an27 an28 an29 an30 an31 an32 : Option Addr} {sl4 sl5 sl6 sl7 sl8 sl11 sl12 sl13 sl14 sl15 sl16 sl17 sl19 sl20 sl21 sl22 sl23 sl24 sl25 sl26 sl27 sl28 sl29 sl30 sl31 sl32 : Array (Option Value)} {oc4 kV4 dc4 pm4 cd4 ct4 oc5 kV5 dc5 pm5 cd5 ct5 oc6 kV6 dc6 pm6 cd6 ct6 oc7 kV7 dc7 pm7 cd7 ct7 oc8 kV8 dc8 pm8 cd8 ct8 oc11 kV11 dc11 pm11 cd11 ct11 oc12 kV12 dc12 pm12 cd12 ct12 oc13 kV13 dc13 pm13 cd13 ct13 oc14 kV14 dc14 pm14 cd14 ct14 oc15 kV15 dc15 pm15 cd15 ct15 oc16 kV16 dc16 pm16 cd16 ct16 oc17 kV17 dc17 pm17 cd17 ct17 oc19 kV19 dc19 pm19 cd19 ct19 oc20 kV20 dc20 pm20 cd20 ct20 oc21 kV21 dc21 pm21 cd21 ct21 oc22 kV22 dc22 pm22 cd22 ct22 oc23 kV23 dc23 pm23 cd23 ct23 oc24 kV24 dc24 pm24 cd24 ct24 oc25 kV25 dc25 pm25 cd25 ct25 oc26 kV26 dc26 pm26 cd26 ct26 oc27 kV27 dc27 pm27 cd27 ct27 oc28 kV28 dc28 pm28 cd28 ct28 oc29 kV29 dc29 pm29 cd29 ct29 oc30 kV30 dc30 pm30 cd30 ct30 oc31 kV31 dc31 pm31 cd31 ct31 oc32 kV32 dc32 pm32 cd32 ct32 : Value} {tM : Tok}
    (a4 : PySem.W.nsIn K mainGlobals "is_integer" = some (some (.ref g4))) (l4 : K.lookup g4 = some ⟨oc4, od4, .func (PySem.W.fnOf "is_integer" "is_integer" (defArgs s4) (defBody s4) (defScope s4) .none kV4 dc4 pm4 an4 cd4 ct4), sl4⟩) (c4 : PySem.W.codeIn K cd4 "is_integer" = true) (k4 : PySem.W.keepIn K (.ref g4) = true)
    (a5 : PySem.W.nsIn K mainGlobals "is_within" = some (some (.ref g5))) (l5 : K.lookup g5 = some ⟨oc5, od5, .func (PySem.W.fnOf "is_within" "is_within" (defArgs s5) (defBody s5) (defScope s5) .none kV5 dc5 pm5 an5 cd5 ct5), sl5⟩) (c5 : PySem.W.codeIn K cd5 "is_within" = true) (k5 : PySem.W.keepIn K (.ref g5) = true)
    (a6 : PySem.W.nsIn K mainGlobals "is_index" = some (some (.ref g6))) (l6 : K.lookup g6 = some ⟨oc6, od6, .func (PySem.W.fnOf "is_index" "is_index" (defArgs s6) (defBody s6) (defScope s6) .none kV6 dc6 pm6 an6 cd6 ct6), sl6⟩) (c6 : PySem.W.codeIn K cd6 "is_index" = true) (k6 : PySem.W.keepIn K (.ref g6) = true)
    (a7 : PySem.W.nsIn K mainGlobals "is_list" = some (some (.ref g7))) (l7 : K.lookup g7 = some ⟨oc7, od7, .func (PySem.W.fnOf "is_list" "is_list" (defArgs s7) (defBody s7) (defScope s7) .none kV7 dc7 pm7 an7 cd7 ct7), sl7⟩) (c7 : PySem.W.codeIn K cd7 "is_list" = true) (k7 : PySem.W.keepIn K (.ref g7) = true)
    (a8 : PySem.W.nsIn K mainGlobals "is_tuple" = some (some (.ref g8))) (l8 : K.lookup g8 = some ⟨oc8, od8, .func (PySem.W.fnOf "is_tuple" "is_tuple" (defArgs s8) (defBody s8) (defScope s8) .none kV8 dc8 pm8 an8 cd8 ct8), sl8⟩) (c8 : PySem.W.codeIn K cd8 "is_tuple" = true) (k8 : PySem.W.keepIn K (.ref g8) = true)
    (a11 : PySem.W.nsIn K mainGlobals "is_number" = some (some (.ref g11))) (l11 : K.lookup g11 = some ⟨oc11, od11, .func (PySem.W.fnOf "is_number" "is_number" (defArgs s11) (defBody s11) (defScope s11) .none kV11 dc11 pm11 an11 cd11 ct11), sl11⟩) (c11 : PySem.W.codeIn K cd11 "is_number" = true) (k11 : PySem.W.keepIn K (.ref g11) = true)
    (a12 : PySem.W.nsIn K mainGlobals "check_square" = some (some (.ref g12))) (l12 : K.lookup g12 = some ⟨oc12, od12, .func (PySem.W.fnOf "check_square" "check_square" (defArgs s12) (defBody s12) (defScope s12) .none kV12 dc12 pm12 an12 cd12 ct12), sl12⟩) (c12 : PySem.W.codeIn K cd12 "check_square" = true) (k12 : PySem.W.keepIn K (.ref g12) = true)
    (a13 : PySem.W.nsIn K mainGlobals "is_even" = some (some (.ref g13))) (l13 : K.lookup g13 = some ⟨oc13, od13, .func (PySem.W.fnOf "is_even" "is_even" (defArgs s13) (defBody s13) (defScope s13) .none kV13 dc13 pm13 an13 cd13 ct13), sl13⟩) (c13 : PySem.W.codeIn K cd13 "is_even" = true) (k13 : PySem.W.keepIn K (.ref g13) = true)
    (a14 : PySem.W.nsIn K mainGlobals "permutations_within" = some (some (.ref g14))) (l14 : K.lookup g14 = some ⟨oc14, od14, .func (PySem.W.fnOf "permutations_within" "permutations_within" (defArgs s14) (defBody s14) (defScope s14) .none kV14 dc14 pm14 an14 cd14 ct14), sl14⟩) (c14 : PySem.W.codeIn K cd14 "permutations_within" = true) (k14 : PySem.W.keepIn K (.ref g14) = true)
    (a15 : PySem.W.nsIn K mainGlobals "permutation_sum" = some (some (.ref g15))) (l15 : K.lookup g15 = some ⟨oc15, od15, .func (PySem.W.fnOf "permutation_sum" "permutation_sum" (defArgs s15) (defBody s15) (defScope s15) .none kV15 dc15 pm15 an15 cd15 ct15), sl15⟩) (c15 : PySem.W.codeIn K cd15 "permutation_sum" = true) (k15 : PySem.W.keepIn K (.ref g15) = true)
    (a16 : PySem.W.nsIn K mainGlobals "is_weighted" = some (some (.ref g16))) (l16 : K.lookup g16 = some ⟨oc16, od16, .func (PySem.W.fnOf "is_weighted" "is_weighted" (defArgs s16) (defBody s16) (defScope s16) .none kV16 dc16 pm16 an16 cd16 ct16), sl16⟩) (c16 : PySem.W.codeIn K cd16 "is_weighted" = true) (k16 : PySem.W.keepIn K (.ref g16) = true)
    (a17 : PySem.W.nsIn K mainGlobals "is_permutation_sum" = some (some (.ref g17))) (l17 : K.lookup g17 = some ⟨oc17, od17, .func (PySem.W.fnOf "is_permutation_sum" "is_permutation_sum" (defArgs s17) (defBody s17) (defScope s17) .none kV17 dc17 pm17 an17 cd17 ct17), sl17⟩) (c17 : PySem.W.codeIn K cd17 "is_permutation_sum" = true) (k17 : PySem.W.keepIn K (.ref g17) = true)
    (a19 : PySem.W.nsIn K mainGlobals "_law_cell" = some (some (.ref g19))) (l19 : K.lookup g19 = some ⟨oc19, od19, .func (PySem.W.fnOf "_law_cell" "_law_cell" (defArgs s19) (defBody s19) (defScope s19) .none kV19 dc19 pm19 an19 cd19 ct19), sl19⟩) (c19 : PySem.W.codeIn K cd19 "_law_cell" = true) (k19 : PySem.W.keepIn K (.ref g19) = true)
    (a20 : PySem.W.nsIn K mainGlobals "_law_box" = some (some (.ref g20))) (l20 : K.lookup g20 = some ⟨oc20, od20, .func (PySem.W.fnOf "_law_box" "_law_box" (defArgs s20) (defBody s20) (defScope s20) .none kV20 dc20 pm20 an20 cd20 ct20), sl20⟩) (c20 : PySem.W.codeIn K cd20 "_law_box" = true) (k20 : PySem.W.keepIn K (.ref g20) = true)
    (a21 : PySem.W.nsIn K mainGlobals "_law_take" = some (some (.ref g21))) (l21 : K.lookup g21 = some ⟨oc21, od21, .func (PySem.W.fnOf "_law_take" "_law_take" (defArgs s21) (defBody s21) (defScope s21) .none kV21 dc21 pm21 an21 cd21 ct21), sl21⟩) (c21 : PySem.W.codeIn K cd21 "_law_take" = true) (k21 : PySem.W.keepIn K (.ref g21) = true)
    (a22 : PySem.W.nsIn K mainGlobals "_law_pick" = some (some (.ref g22))) (l22 : K.lookup g22 = some ⟨oc22, od22, .func (PySem.W.fnOf "_law_pick" "_law_pick" (defArgs s22) (defBody s22) (defScope s22) .none kV22 dc22 pm22 an22 cd22 ct22), sl22⟩) (c22 : PySem.W.codeIn K cd22 "_law_pick" = true) (k22 : PySem.W.keepIn K (.ref g22) = true)
    (a23 : PySem.W.nsIn K mainGlobals "_law_mixed" = some (some (.ref g23))) (l23 : K.lookup g23 = some ⟨oc23, od23, .func (PySem.W.fnOf "_law_mixed" "_law_mixed" (defArgs s23) (defBody s23) (defScope s23) .none kV23 dc23 pm23 an23 cd23 ct23), sl23⟩) (c23 : PySem.W.codeIn K cd23 "_law_mixed" = true) (k23 : PySem.W.keepIn K (.ref g23) = true)
    (a24 : PySem.W.nsIn K mainGlobals "_law_same" = some (some (.ref g24))) (l24 : K.lookup g24 = some ⟨oc24, od24, .func (PySem.W.fnOf "_law_same" "_law_same" (defArgs s24) (defBody s24) (defScope s24) .none kV24 dc24 pm24 an24 cd24 ct24), sl24⟩) (c24 : PySem.W.codeIn K cd24 "_law_same" = true) (k24 : PySem.W.keepIn K (.ref g24) = true)
    (a25 : PySem.W.nsIn K mainGlobals "_law_is_whole" = some (some (.ref g25))) (l25 : K.lookup g25 = some ⟨oc25, od25, .func (PySem.W.fnOf "_law_is_whole" "_law_is_whole" (defArgs s25) (defBody s25) (defScope s25) .none kV25 dc25 pm25 an25 cd25 ct25), sl25⟩) (c25 : PySem.W.codeIn K cd25 "_law_is_whole" = true) (k25 : PySem.W.keepIn K (.ref g25) = true)
    (a26 : PySem.W.nsIn K mainGlobals "_law_added" = some (some (.ref g26))) (l26 : K.lookup g26 = some ⟨oc26, od26, .func (PySem.W.fnOf "_law_added" "_law_added" (defArgs s26) (defBody s26) (defScope s26) .none kV26 dc26 pm26 an26 cd26 ct26), sl26⟩) (c26 : PySem.W.codeIn K cd26 "_law_added" = true) (k26 : PySem.W.keepIn K (.ref g26) = true)
    (a27 : PySem.W.nsIn K mainGlobals "_law_is_sum" = some (some (.ref g27))) (l27 : K.lookup g27 = some ⟨oc27, od27, .func (PySem.W.fnOf "_law_is_sum" "_law_is_sum" (defArgs s27) (defBody s27) (defScope s27) .none kV27 dc27 pm27 an27 cd27 ct27), sl27⟩) (c27 : PySem.W.codeIn K cd27 "_law_is_sum" = true) (k27 : PySem.W.keepIn K (.ref g27) = true)
    (a28 : PySem.W.nsIn K mainGlobals "_law_pairs" = some (some (.ref g28))) (l28 : K.lookup g28 = some ⟨oc28, od28, .func (PySem.W.fnOf "_law_pairs" "_law_pairs" (defArgs s28) (defBody s28) (defScope s28) .none kV28 dc28 pm28 an28 cd28 ct28), sl28⟩) (c28 : PySem.W.codeIn K cd28 "_law_pairs" = true) (k28 : PySem.W.keepIn K (.ref g28) = true)
    (a29 : PySem.W.nsIn K mainGlobals "_law_beside" = some (some (.ref g29))) (l29 : K.lookup g29 = some ⟨oc29, od29, .func (PySem.W.fnOf "_law_beside" "_law_beside" (defArgs s29) (defBody s29) (defScope s29) .none kV29 dc29 pm29 an29 cd29 ct29), sl29⟩) (c29 : PySem.W.codeIn K cd29 "_law_beside" = true) (k29 : PySem.W.keepIn K (.ref g29) = true)
    (a30 : PySem.W.nsIn K mainGlobals "_law_values" = some (some (.ref g30))) (l30 : K.lookup g30 = some ⟨oc30, od30, .func (PySem.W.fnOf "_law_values" "_law_values" (defArgs s30) (defBody s30) (defScope s30) .none kV30 dc30 pm30 an30 cd30 ct30), sl30⟩) (c30 : PySem.W.codeIn K cd30 "_law_values" = true) (k30 : PySem.W.keepIn K (.ref g30) = true)
    (a31 : PySem.W.nsIn K mainGlobals "_law_square_right" = some (some (.ref g31))) (l31 : K.lookup g31 = some ⟨oc31, od31, .func (PySem.W.fnOf "_law_square_right" "_law_square_right" (defArgs s31) (defBody s31) (defScope s31) .none kV31 dc31 pm31 an31 cd31 ct31), sl31⟩) (c31 : PySem.W.codeIn K cd31 "_law_square_right" = true) (k31 : PySem.W.keepIn K (.ref g31) = true)
    (a32 : PySem.W.nsIn K mainGlobals "law" = some (some (.ref g32))) (l32 : K.lookup g32 = some ⟨oc32, od32, .func (PySem.W.fnOf "law" "law" (defArgs s32) (defBody s32) (defScope s32) .none kV32 dc32 pm32 an32 cd32 ct32), sl32⟩) (c32 : PySem.W.codeIn K cd32 "law" = true) (k32 : PySem.W.keepIn K (.ref g32) = true)
    (mM : PySem.W.nsIn K mainGlobals "MOST_LINES" = some (some (.int 6 tM)))
    (zisinstance : PySem.W.nsIn K mainGlobals "isinstance" = some none) (zint : PySem.W.nsIn K mainGlobals "int" = some none) (zbool : PySem.W.nsIn K mainGlobals "bool" = some none) (zstr : PySem.W.nsIn K mainGlobals "str" = some none) (zdict : PySem.W.nsIn K mainGlobals "dict" = some none) (zlist : PySem.W.nsIn K mainGlobals "list" = some none) (ztuple : PySem.W.nsIn K mainGlobals "tuple" = some none) (zlen : PySem.W.nsIn K mainGlobals "len" = some none) (zsum : PySem.W.nsIn K mainGlobals "sum" = some none) (zmin : PySem.W.nsIn K mainGlobals "min" = some none) (zmax : PySem.W.nsIn K mainGlobals "max" = some none) (zabs : PySem.W.nsIn K mainGlobals "abs" = some none) (zall : PySem.W.nsIn K mainGlobals "all" = some none) (zany : PySem.W.nsIn K mainGlobals "any" = some none) (zset : PySem.W.nsIn K mainGlobals "set" = some none) (zzip : PySem.W.nsIn K mainGlobals "zip" = some none) (zenumerate : PySem.W.nsIn K mainGlobals "enumerate" = some none) (zrange : PySem.W.nsIn K mainGlobals "range" = some none) (zsorted : PySem.W.nsIn K mainGlobals "sorted" = some none) :
    ∃ fd : FuncData, (∀ (s : Shared) (v : Value), BindsTo s fd ⟨[v], []⟩ [("script", v)]) ∧ ∀ base : Heap, K.In base → base.Ns mainGlobals mg → FnOk l.prog w K mg base CX0 7 fa fd ["script"] (spD K (PureS f32)) := by
  have e := hfa.symm.trans (PySem.W.mg_of X G a32)
  cases e
  have B : Bl mg := ⟨PySem.W.mg_none_of X G zisinstance, PySem.W.mg_none_of X G zint, PySem.W.mg_none_of X G zbool, PySem.W.mg_none_of X G zstr, PySem.W.mg_none_of X G zdict, PySem.W.mg_none_of X G zlist, PySem.W.mg_none_of X G ztuple, PySem.W.mg_none_of X G zlen, PySem.W.mg_none_of X G zsum, PySem.W.mg_none_of X G zmin, PySem.W.mg_none_of X G zmax, PySem.W.mg_none_of X G zabs, PySem.W.mg_none_of X G zall, PySem.W.mg_none_of X G zany, PySem.W.mg_none_of X G zset, PySem.W.mg_none_of X G zzip, PySem.W.mg_none_of X G zenumerate, PySem.W.mg_none_of X G zrange, PySem.W.mg_none_of X G zsorted⟩
  have D4 : Def K mg "is_integer" s4 ["value"] := ⟨g4, _, fun_mk (st := s4) l4 c4 k4, PySem.W.mg_of X G a4, (fun_mk (st := s4) l4 c4 k4).binds (ps := ["value"]) fun _ _ _ _ _ _ us hl => match us, hl with | [_], _ => rfl⟩
  have D5 : Def K mg "is_within" s5 ["value", "low", "high"] := ⟨g5, _, fun_mk (st := s5) l5 c5 k5, PySem.W.mg_of X G a5, (fun_mk (st := s5) l5 c5 k5).binds (ps := ["value", "low", "high"]) fun _ _ _ _ _ _ us hl => match us, hl with | [_, _, _], _ => rfl⟩
  have D6 : Def K mg "is_index" s6 ["value", "many"] := ⟨g6, _, fun_mk (st := s6) l6 c6 k6, PySem.W.mg_of X G a6, (fun_mk (st := s6) l6 c6 k6).binds (ps := ["value", "many"]) fun _ _ _ _ _ _ us hl => match us, hl with | [_, _], _ => rfl⟩
  have D7 : Def K mg "is_list" s7 ["value"] := ⟨g7, _, fun_mk (st := s7) l7 c7 k7, PySem.W.mg_of X G a7, (fun_mk (st := s7) l7 c7 k7).binds (ps := ["value"]) fun _ _ _ _ _ _ us hl => match us, hl with | [_], _ => rfl⟩
  have D8 : Def K mg "is_tuple" s8 ["value", "many"] := ⟨g8, _, fun_mk (st := s8) l8 c8 k8, PySem.W.mg_of X G a8, (fun_mk (st := s8) l8 c8 k8).binds (ps := ["value", "many"]) fun _ _ _ _ _ _ us hl => match us, hl with | [_, _], _ => rfl⟩
  have D11 : Def K mg "is_number" s11 ["value"] := ⟨g11, _, fun_mk (st := s11) l11 c11 k11, PySem.W.mg_of X G a11, (fun_mk (st := s11) l11 c11 k11).binds (ps := ["value"]) fun _ _ _ _ _ _ us hl => match us, hl with | [_], _ => rfl⟩
  have D12 : Def K mg "check_square" s12 ["square"] := ⟨g12, _, fun_mk (st := s12) l12 c12 k12, PySem.W.mg_of X G a12, (fun_mk (st := s12) l12 c12 k12).binds (ps := ["square"]) fun _ _ _ _ _ _ us hl => match us, hl with | [_], _ => rfl⟩
  have D13 : Def K mg "is_even" s13 ["square"] := ⟨g13, _, fun_mk (st := s13) l13 c13 k13, PySem.W.mg_of X G a13, (fun_mk (st := s13) l13 c13 k13).binds (ps := ["square"]) fun _ _ _ _ _ _ us hl => match us, hl with | [_], _ => rfl⟩
  have D14 : Def K mg "permutations_within" s14 ["square"] := ⟨g14, _, fun_mk (st := s14) l14 c14 k14, PySem.W.mg_of X G a14, (fun_mk (st := s14) l14 c14 k14).binds (ps := ["square"]) fun _ _ _ _ _ _ us hl => match us, hl with | [_], _ => rfl⟩
  have D15 : Def K mg "permutation_sum" s15 ["square"] := ⟨g15, _, fun_mk (st := s15) l15 c15 k15, PySem.W.mg_of X G a15, (fun_mk (st := s15) l15 c15 k15).binds (ps := ["square"]) fun _ _ _ _ _ _ us hl => match us, hl with | [_], _ => rfl⟩
  have D16 : Def K mg "is_weighted" s16 ["value", "many"] := ⟨g16, _, fun_mk (st := s16) l16 c16 k16, PySem.W.mg_of X G a16, (fun_mk (st := s16) l16 c16 k16).binds (ps := ["value", "many"]) fun _ _ _ _ _ _ us hl => match us, hl with | [_, _], _ => rfl⟩
  have D17 : Def K mg "is_permutation_sum" s17 ["square", "value"] := ⟨g17, _, fun_mk (st := s17) l17 c17 k17, PySem.W.mg_of X G a17, (fun_mk (st := s17) l17 c17 k17).binds (ps := ["square", "value"]) fun _ _ _ _ _ _ us hl => match us, hl with | [_, _], _ => rfl⟩
  have D19 : Def K mg "_law_cell" s19 ["script", "k"] := ⟨g19, _, fun_mk (st := s19) l19 c19 k19, PySem.W.mg_of X G a19, (fun_mk (st := s19) l19 c19 k19).binds (ps := ["script", "k"]) fun _ _ _ _ _ _ us hl => match us, hl with | [_, _], _ => rfl⟩
  have D20 : Def K mg "_law_box" s20 ["great"] := ⟨g20, _, fun_mk (st := s20) l20 c20 k20, PySem.W.mg_of X G a20, (fun_mk (st := s20) l20 c20 k20).binds (ps := ["great"]) fun _ _ _ _ _ _ us hl => match us, hl with | [_], _ => rfl⟩
  have D21 : Def K mg "_law_take" s21 ["box", "many"] := ⟨g21, _, fun_mk (st := s21) l21 c21 k21, PySem.W.mg_of X G a21, (fun_mk (st := s21) l21 c21 k21).binds (ps := ["box", "many"]) fun _ _ _ _ _ _ us hl => match us, hl with | [_, _], _ => rfl⟩
  have D22 : Def K mg "_law_pick" s22 ["box", "items"] := ⟨g22, _, fun_mk (st := s22) l22 c22 k22, PySem.W.mg_of X G a22, (fun_mk (st := s22) l22 c22 k22).binds (ps := ["box", "items"]) fun _ _ _ _ _ _ us hl => match us, hl with | [_, _], _ => rfl⟩
  have D23 : Def K mg "_law_mixed" s23 ["box", "items"] := ⟨g23, _, fun_mk (st := s23) l23 c23 k23, PySem.W.mg_of X G a23, (fun_mk (st := s23) l23 c23 k23).binds (ps := ["box", "items"]) fun _ _ _ _ _ _ us hl => match us, hl with | [_, _], _ => rfl⟩
  have D24 : Def K mg "_law_same" s24 ["given", "due"] := ⟨g24, _, fun_mk (st := s24) l24 c24 k24, PySem.W.mg_of X G a24, (fun_mk (st := s24) l24 c24 k24).binds (ps := ["given", "due"]) fun _ _ _ _ _ _ us hl => match us, hl with | [_, _], _ => rfl⟩
  have D25 : Def K mg "_law_is_whole" s25 ["value"] := ⟨g25, _, fun_mk (st := s25) l25 c25 k25, PySem.W.mg_of X G a25, (fun_mk (st := s25) l25 c25 k25).binds (ps := ["value"]) fun _ _ _ _ _ _ us hl => match us, hl with | [_], _ => rfl⟩
  have D26 : Def K mg "_law_added" s26 ["many", "pairs"] := ⟨g26, _, fun_mk (st := s26) l26 c26 k26, PySem.W.mg_of X G a26, (fun_mk (st := s26) l26 c26 k26).binds (ps := ["many", "pairs"]) fun _ _ _ _ _ _ us hl => match us, hl with | [_, _], _ => rfl⟩
  have D27 : Def K mg "_law_is_sum" s27 ["square", "value"] := ⟨g27, _, fun_mk (st := s27) l27 c27 k27, PySem.W.mg_of X G a27, (fun_mk (st := s27) l27 c27 k27).binds (ps := ["square", "value"]) fun _ _ _ _ _ _ us hl => match us, hl with | [_, _], _ => rfl⟩
  have D28 : Def K mg "_law_pairs" s28 ["box", "many", "most"] := ⟨g28, _, fun_mk (st := s28) l28 c28 k28, PySem.W.mg_of X G a28, (fun_mk (st := s28) l28 c28 k28).binds (ps := ["box", "many", "most"]) fun _ _ _ _ _ _ us hl => match us, hl with | [_, _, _], _ => rfl⟩
  have D29 : Def K mg "_law_beside" s29 ["one", "other"] := ⟨g29, _, fun_mk (st := s29) l29 c29 k29, PySem.W.mg_of X G a29, (fun_mk (st := s29) l29 c29 k29).binds (ps := ["one", "other"]) fun _ _ _ _ _ _ us hl => match us, hl with | [_, _], _ => rfl⟩
  have D30 : Def K mg "_law_values" s30 ["box", "many", "pairs", "strange"] := ⟨g30, _, fun_mk (st := s30) l30 c30 k30, PySem.W.mg_of X G a30, (fun_mk (st := s30) l30 c30 k30).binds (ps := ["box", "many", "pairs", "strange"]) fun _ _ _ _ _ _ us hl => match us, hl with | [_, _, _, _], _ => rfl⟩
  have D31 : Def K mg "_law_square_right" s31 ["box", "square", "pairs", "strange", "way"] := ⟨g31, _, fun_mk (st := s31) l31 c31 k31, PySem.W.mg_of X G a31, (fun_mk (st := s31) l31 c31 k31).binds (ps := ["box", "square", "pairs", "strange", "way"]) fun _ _ _ _ _ _ us hl => match us, hl with | [_, _, _, _, _], _ => rfl⟩
  have mM' := PySem.W.mg_of X G mM
  refine ⟨PySem.W.fnOf "law" "law" (defArgs s32) (defBody s32) (defScope s32) .none kV32 dc32 pm32 an32 cd32 ct32, fun s v => .of_eq rfl, fun base _ _ => ?_⟩
  have F4 := ok4 (P := l.prog) (w := w) (base := base) B D4
  have F5 := ok5 (P := l.prog) (w := w) (base := base) D4 F4 D5
  have F6 := ok6 (P := l.prog) (w := w) (base := base) D5 F5 D6
  have F7 := ok7 (P := l.prog) (w := w) (base := base) B D7
  have F8 := ok8 (P := l.prog) (w := w) (base := base) B D8
  have F11 := ok11 (P := l.prog) (w := w) (base := base) D4 F4 D11
  have F12 := ok12 (P := l.prog) (w := w) (base := base) B mM' D8 F8 D11 F11 D12
  have F13 := ok13 (P := l.prog) (w := w) (base := base) B D13
  have F14 := ok14 (P := l.prog) (w := w) (base := base) B D14
  have F15 := ok15 (P := l.prog) (w := w) (base := base) B D12 F12 D13 F13 D14 F14 D15
  have F16 := ok16 (P := l.prog) (w := w) (base := base) B D4 F4 D6 F6 D8 F8 D16
  have F17 := ok17 (P := l.prog) (w := w) (base := base) B D7 F7 D12 F12 D13 F13 D16 F16 D17
  have F19 := ok19 (P := l.prog) (w := w) (base := base) B D19
  have F20 := ok20 (P := l.prog) (w := w) (base := base) B D20
  have F21 := ok21 (P := l.prog) (w := w) (base := base) B D21
  have F22 := ok22 (P := l.prog) (w := w) (base := base) B D21 F21 D22
  have F23 := ok23 (P := l.prog) (w := w) (base := base) B D21 F21 D23
  have F24 := ok24 (P := l.prog) (w := w) (base := base) B D24
  have F25 := ok25 (P := l.prog) (w := w) (base := base) B D25
  have F26 := ok26 (P := l.prog) (w := w) (base := base) B D26
  have F27 := ok27 (P := l.prog) (w := w) (base := base) B D25 F25 D26 F26 D27
  have F28 := ok28 (P := l.prog) (w := w) (base := base) B D21 F21 D22 F22 D23 F23 D28
  have F29 := ok29 (P := l.prog) (w := w) (base := base) B D29
  have F30 := ok30 (P := l.prog) (w := w) (base := base) B D21 F21 D23 F23 D30
  have F31 := ok31 (P := l.prog) (w := w) (base := base) B D15 F15 D17 F17 D24 F24 D27 F27 D30 F30 D31
  exact ok32 (P := l.prog) (w := w) (base := base) B D19 F19 D20 F20 D21 F21 D23 F23 D26 F26 D28 F28 D29 F29 D31 F31 ⟨fa, _, fun_mk (st := s32) l32 c32 k32, PySem.W.mg_of X G a32, (fun_mk (st := s32) l32 c32 k32).binds (ps := ["script"]) fun _ _ _ _ _ _ us hl => match us, hl with | [_], _ => rfl⟩
theorem end_ok {K : PySem.W.Frag} {H : Hp} {a : Addr} {ns : List Int} {Q : VK} {E : XK} (hl : ns.length ≤ 63) (hS : SqL K H a (ns.map V.int)) (hQ : ∀ H', Q (.bl true) H') : spD K (PureS f32) [.ref a] H Q E := by
  refine ⟨H, fun _ => [], fun _ => none, [], [.ro ns], fun _ sv => sv = .d (.bool true), ⟨rfl, by simp [noOwn], _, ⟨ns, hl, rfl, rfl⟩, rfl⟩, ?_, .cons ⟨a, rfl, hS⟩ .nil, fun v sv cs' G' A' H' hR _ _ _ _ ok => ?_⟩
  · exact ⟨Ex.refl _, (fun a o q => nomatch q), (fun a o q => nomatch q), fun k c q => absurd q (by simp), fun k c q => absurd q (by simp), fun k c q => absurd q (by simp), fun j k c d _ q => absurd q (by simp)⟩
  · subst hR
    cases ok
    exact hQ H'
end K69
set_option Elab.async false
set_option linter.all false
set_option maxRecDepth 100000
open PySem PySem.W PyProof.Rows in
set_option maxRecDepth 100000 in
set_option maxHeartbeats 0 in
theorem PySem.Challenge.cw_polytopebench_k69_sums_of_permutations_j_holds : PySem.Challenge.rw_polytopebench_k69_sums_of_permutations_j.Holds := by
  w_on; o_law; k_head; (case hw => w_witness2)
  k_fill
  refine L2.walk_of (l := PySem.Challenge.rw_polytopebench_k69_sums_of_permutations_j) (n := 63) (k := 7) (x := "script") (CX := fun _ => L2.CX0) (sp := fun w => DL.spD _ (DL.PureS K69.f32)) rfl (by decide) rfl ⟨rfl, by decide, by decide⟩ (fun w h Y => PySem.W.kIn_of Y) ?F (fun w H a ns hl _ hS => K69.end_ok hl hS fun _ => rfl) ?E
  case E => exact fun _ _ _ _ _ z => z
  case F =>
    intro w mg fa h KX G hmg
    refine' K69.all_mk KX G hmg ?a4 ?l4 ?c4 ?k4 ?a5 ?l5 ?c5 ?k5 ?a6 ?l6 ?c6 ?k6 ?a7 ?l7 ?c7 ?k7 ?a8 ?l8 ?c8 ?k8 ?a11 ?l11 ?c11 ?k11 ?a12 ?l12 ?c12 ?k12 ?a13 ?l13 ?c13 ?k13 ?a14 ?l14 ?c14 ?k14 ?a15 ?l15 ?c15 ?k15 ?a16 ?l16 ?c16 ?k16 ?a17 ?l17 ?c17 ?k17 ?a19 ?l19 ?c19 ?k19 ?a20 ?l20 ?c20 ?k20 ?a21 ?l21 ?c21 ?k21 ?a22 ?l22 ?c22 ?k22 ?a23 ?l23 ?c23 ?k23 ?a24 ?l24 ?c24 ?k24 ?a25 ?l25 ?c25 ?k25 ?a26 ?l26 ?c26 ?k26 ?a27 ?l27 ?c27 ?k27 ?a28 ?l28 ?c28 ?k28 ?a29 ?l29 ?c29 ?k29 ?a30 ?l30 ?c30 ?k30 ?a31 ?l31 ?c31 ?k31 ?a32 ?l32 ?c32 ?k32 ?mM ?zisinstance ?zint ?zbool ?zstr ?zdict ?zlist ?ztuple ?zlen ?zsum ?zmin ?zmax ?zabs ?zall ?zany ?zset ?zzip ?zenumerate ?zrange ?zsorted
    (case a4 => k_is)
    (case l4 => k_is)
    (case c4 => k_is)
    (case k4 => k_is)
    (case a5 => k_is)
    (case l5 => k_is)
    (case c5 => k_is)
    (case k5 => k_is)
    (case a6 => k_is)
    (case l6 => k_is)
    (case c6 => k_is)
    (case k6 => k_is)
    (case a7 => k_is)
    (case l7 => k_is)
    (case c7 => k_is)
    (case k7 => k_is)
    (case a8 => k_is)
    (case l8 => k_is)
    (case c8 => k_is)
    (case k8 => k_is)
    (case a11 => k_is)
    (case l11 => k_is)
    (case c11 => k_is)
    (case k11 => k_is)
    (case a12 => k_is)
    (case l12 => k_is)
    (case c12 => k_is)
    (case k12 => k_is)
    (case a13 => k_is)
    (case l13 => k_is)
    (case c13 => k_is)
    (case k13 => k_is)
    (case a14 => k_is)
    (case l14 => k_is)
    (case c14 => k_is)
    (case k14 => k_is)
    (case a15 => k_is)
    (case l15 => k_is)
    (case c15 => k_is)
    (case k15 => k_is)
    (case a16 => k_is)
    (case l16 => k_is)
    (case c16 => k_is)
    (case k16 => k_is)
    (case a17 => k_is)
    (case l17 => k_is)
    (case c17 => k_is)
    (case k17 => k_is)
    (case a19 => k_is)
    (case l19 => k_is)
    (case c19 => k_is)
    (case k19 => k_is)
    (case a20 => k_is)
    (case l20 => k_is)
    (case c20 => k_is)
    (case k20 => k_is)
    (case a21 => k_is)
    (case l21 => k_is)
    (case c21 => k_is)
    (case k21 => k_is)
    (case a22 => k_is)
    (case l22 => k_is)
    (case c22 => k_is)
    (case k22 => k_is)
    (case a23 => k_is)
    (case l23 => k_is)
    (case c23 => k_is)
    (case k23 => k_is)
    (case a24 => k_is)
    (case l24 => k_is)
    (case c24 => k_is)
    (case k24 => k_is)
    (case a25 => k_is)
    (case l25 => k_is)
    (case c25 => k_is)
    (case k25 => k_is)
    (case a26 => k_is)
    (case l26 => k_is)
    (case c26 => k_is)
    (case k26 => k_is)
    (case a27 => k_is)
    (case l27 => k_is)
    (case c27 => k_is)
    (case k27 => k_is)
    (case a28 => k_is)
    (case l28 => k_is)
    (case c28 => k_is)
    (case k28 => k_is)
    (case a29 => k_is)
    (case l29 => k_is)
    (case c29 => k_is)
    (case k29 => k_is)
    (case a30 => k_is)
    (case l30 => k_is)
    (case c30 => k_is)
    (case k30 => k_is)
    (case a31 => k_is)
    (case l31 => k_is)
    (case c31 => k_is)
    (case k31 => k_is)
    (case a32 => k_is)
    (case l32 => k_is)
    (case c32 => k_is)
    (case k32 => k_is)
    (case mM => k_is)
    (case zisinstance => k_is)
    (case zint => k_is)
    (case zbool => k_is)
    (case zstr => k_is)
    (case zdict => k_is)
    (case zlist => k_is)
    (case ztuple => k_is)
    (case zlen => k_is)
    (case zsum => k_is)
    (case zmin => k_is)
    (case zmax => k_is)
    (case zabs => k_is)
    (case zall => k_is)
    (case zany => k_is)
    (case zset => k_is)
    (case zzip => k_is)
    (case zenumerate => k_is)
    (case zrange => k_is)
    (case zsorted => k_is)
