/- What an argument reads as data, opened as a kind of the printed words: ints, strings, slices, structs whose fields are one cell each, types nested in themselves. No statement; a tool for the rows. -/
import Derived.Test.YtmelflbbeecjfaaWWords
import Derived.ChangeArms
import Derived.DataReads
import Derived.WideShapes
import Derived.Lib.SmallJoins
namespace Go.Proofs.Ytmelflbbeecjfaa.Opens
open Go.RowKit Go.Deep Go.WideShapes Go.Proofs.YtmelflbbeecjfaaW.PrintWords

section
variable {H : Type} {enc : TypeId × Value → H} {P : Program} {w : World} {fuel : Nat} {t e : TypeId} {α β γ δ ε : Type}

/-- Whatever cells read as data of the type are read as the kind, at a value with the property. -/
def Opens (enc : TypeId × Value → H) (P : Program) (w : World) (fuel : Nat) (t : TypeId) (d : Kd α) (Q : α → Prop) : Prop :=
  ∀ (cs : List Value) (x : DataW H × List MemPlace), DataW.trod enc P w 0 (fun _ => true) true fuel t cs = some x → ∃ v : α, d.K w v cs ∧ Q v

theorem opens_int {k : IntKind} (ht : P.underlying t = some (.int k)) : Opens enc P w fuel t (Kd.int k) (fun n => (Lit.int k n).wf = true) := by
  intro cs x h
  obtain ⟨n, rfl, _, hw⟩ := DataW.trod_int ht h
  exact ⟨n, rfl, hw⟩

theorem opens_string (ht : P.underlying t = some .string) : Opens enc P w fuel t Kd.string (fun s => s.size ≤ maxLen) := by
  intro cs x h
  obtain ⟨s, rfl, _, hw⟩ := DataW.trod_string ht h
  exact ⟨s, rfl, hw⟩

theorem add_add (a : Addr) (m j : Nat) : (a.add m).add j = a.add (m + j) := by
  unfold Addr.add
  by_cases hm : m = 0
  · subst hm; simp
  · by_cases hj : j = 0
    · subst hj; simp
    · simp [hm, hj, Nat.add_assoc]

theorem opens_slice {d : Kd α} {Q : α → Prop} (ht : P.underlying t = some (.slice e)) (hsz : P.cellsOf e = d.sz) (he : ∀ n, n < fuel → Opens enc P w n e d Q) :
    Opens enc P w fuel t (Kd.slice e d) (fun xs => xs.length ≤ maxLen ∧ ∀ x ∈ xs, Q x) := by
  intro cs x h
  rcases DataW.trod_slice ht h with ⟨rfl, _⟩ | ⟨a, len, cap, elems, rest, n, rfl, rfl, _, _, hl, hm, hlen, hel, _, _⟩
  · exact ⟨[], ⟨none, 0, rfl, Nat.le_refl _, Kd.C_nil d w⟩, by simp [maxLen], by simp⟩
  · have each : ∀ i, i < len → ∃ v : α, (∃ c, c.length = d.sz ∧ d.K w v c ∧ ∀ j u, c[j]? = some u → w.cell? (a.add (i * d.sz + j)) = some u) ∧ Q v := by
      intro i hi
      have h1 := hel i hi
      rw [List.getElem?_eq_getElem (by omega)] at h1
      obtain ⟨cs', h2, h3⟩ := Option.bind_eq_some_iff.1 h1
      obtain ⟨v, hk, hq⟩ := he n (by omega) _ _ h3
      obtain ⟨_, hlen', hcell⟩ := World.cells?_some h2
      refine ⟨v, ⟨cs', by rw [hlen', hsz], hk, ?_⟩, hq⟩
      intro j u hj
      have hj' : j < P.cellsOf e := by have := (List.getElem?_eq_some_iff.1 hj).1; omega
      have h4 := hcell j hj'
      rw [add_add, hsz] at h4
      rw [h4, hj]
    have all : ∀ m, m ≤ len → ∃ xs : List α, xs.length = m ∧ ∀ i v, xs[i]? = some v → (∃ c, c.length = d.sz ∧ d.K w v c ∧ ∀ j u, c[j]? = some u → w.cell? (a.add (i * d.sz + j)) = some u) ∧ Q v := by
      intro m
      induction m with
      | zero => exact fun _ => ⟨[], rfl, fun i v hv => by simp at hv⟩
      | succ m ih =>
        intro hm
        obtain ⟨xs, hx, hp⟩ := ih (by omega)
        obtain ⟨v, hv⟩ := each m (by omega)
        refine ⟨xs ++ [v], by simp [hx], fun i u hu => ?_⟩
        rcases Nat.lt_or_ge i m with hi | hi
        · rw [List.getElem?_append_left (by omega)] at hu
          exact hp i u hu
        · rw [List.getElem?_append_right (by omega)] at hu
          have hi' : i = m := by
            have := (List.getElem?_eq_some_iff.1 hu).1
            simp at this
            omega
          subst hi'
          simp [hx] at hu
          subst hu
          exact hv
    obtain ⟨xs, hx, hp⟩ := all len (Nat.le_refl _)
    subst hx
    refine ⟨xs, ⟨some a, cap, rfl, hl, rfl, by simp only [maxLen] at hm; omega, fun _ => ⟨a, rfl, fun j p hj => (hp j p hj).1⟩⟩, by omega, fun v hv => ?_⟩
    obtain ⟨i, hi⟩ := List.mem_iff_getElem?.1 hv
    exact (hp i v hi).2

theorem take_one {cs : List Value} {i : Nat} (h : i < cs.length) : (cs.drop i).take 1 = [cs[i]] := by
  rw [List.drop_eq_getElem_cons h]; rfl

/-- A field of one cell. -/
theorem field {fs : Array Field} {cs : List Value} {n i : Nat} {f : Field} {xs : List (DataW H × List MemPlace)} (hone : oneCellFields P fs = true) (hl : cs.length = fs.size) (hlx : xs.length = fs.size)
    (hf : ∀ (i : Nat) (f : Field), fs[i]? = some f → DataW.trod enc P w 0 (fun _ => true) true n f.type ((cs.drop f.offset).take (P.cellsOf f.type)) = xs[i]?) (hi : fs[i]? = some f)
    {d : Kd α} {Q : α → Prop} (h : Opens enc P w n f.type d Q) : ∃ v : α, ∃ hk : i < cs.length, d.K w v [cs[i]] ∧ Q v := by
  obtain ⟨o, k⟩ := hone_of hone i f hi
  have hi' : i < fs.size := (Array.getElem?_eq_some_iff.1 hi).1
  have h1 := hf i f hi
  rw [List.getElem?_eq_getElem (by omega), o, k, take_one (by omega)] at h1
  obtain ⟨v, hv, hq⟩ := h _ _ h1
  exact ⟨v, by omega, hv, hq⟩

theorem opens_struct3 {f0 f1 f2 : Field} {a : Kd α} {b : Kd β} {c : Kd γ} {Qa : α → Prop} {Qb : β → Prop} {Qc : γ → Prop} (ht : P.underlying t = some (.struct #[f0, f1, f2])) (hone : oneCellFields P #[f0, f1, f2] = true) (hC : P.cellsOf t = 3)
    (ha : ∀ n, n < fuel → Opens enc P w n f0.type a Qa) (hb : ∀ n, n < fuel → Opens enc P w n f1.type b Qb) (hc : ∀ n, n < fuel → Opens enc P w n f2.type c Qc) :
    Opens enc P w fuel t (Kd.pair a (Kd.pair b c)) (fun x => Qa x.1 ∧ Qb x.2.1 ∧ Qc x.2.2) := by
  intro cs x h
  obtain ⟨xs, n, rfl, rfl, hl, hlx, hf⟩ := DataW.trod_struct ht h
  have hl' : cs.length = 3 := hl.trans hC
  obtain ⟨u0, _, k0, q0⟩ := field hone hl' hlx hf (i := 0) rfl (ha n (by omega))
  obtain ⟨u1, _, k1, q1⟩ := field hone hl' hlx hf (i := 1) rfl (hb n (by omega))
  obtain ⟨u2, _, k2, q2⟩ := field hone hl' hlx hf (i := 2) rfl (hc n (by omega))
  match cs, hl' with
  | [c0, c1, c2], _ => exact ⟨(u0, u1, u2), ⟨[c0], [c1, c2], rfl, k0, [c1], [c2], rfl, k1, k2⟩, q0, q1, q2⟩

theorem opens_struct4 {f0 f1 f2 f3 : Field} {a : Kd α} {b : Kd β} {c : Kd γ} {d : Kd δ} {Qa : α → Prop} {Qb : β → Prop} {Qc : γ → Prop} {Qd : δ → Prop} (ht : P.underlying t = some (.struct #[f0, f1, f2, f3])) (hone : oneCellFields P #[f0, f1, f2, f3] = true) (hC : P.cellsOf t = 4)
    (ha : ∀ n, n < fuel → Opens enc P w n f0.type a Qa) (hb : ∀ n, n < fuel → Opens enc P w n f1.type b Qb) (hc : ∀ n, n < fuel → Opens enc P w n f2.type c Qc) (hd : ∀ n, n < fuel → Opens enc P w n f3.type d Qd) :
    Opens enc P w fuel t (Kd.pair a (Kd.pair b (Kd.pair c d))) (fun x => Qa x.1 ∧ Qb x.2.1 ∧ Qc x.2.2.1 ∧ Qd x.2.2.2) := by
  intro cs x h
  obtain ⟨xs, n, rfl, rfl, hl, hlx, hf⟩ := DataW.trod_struct ht h
  have hl' : cs.length = 4 := hl.trans hC
  obtain ⟨u0, _, k0, q0⟩ := field hone hl' hlx hf (i := 0) rfl (ha n (by omega))
  obtain ⟨u1, _, k1, q1⟩ := field hone hl' hlx hf (i := 1) rfl (hb n (by omega))
  obtain ⟨u2, _, k2, q2⟩ := field hone hl' hlx hf (i := 2) rfl (hc n (by omega))
  obtain ⟨u3, _, k3, q3⟩ := field hone hl' hlx hf (i := 3) rfl (hd n (by omega))
  match cs, hl' with
  | [c0, c1, c2, c3], _ => exact ⟨(u0, u1, u2, u3), ⟨[c0], [c1, c2, c3], rfl, k0, [c1], [c2, c3], rfl, k1, [c2], [c3], rfl, k2, k3⟩, q0, q1, q2, q3⟩

theorem opens_struct5 {f0 f1 f2 f3 f4 : Field} {a : Kd α} {b : Kd β} {c : Kd γ} {d : Kd δ} {g : Kd ε} {Qa : α → Prop} {Qb : β → Prop} {Qc : γ → Prop} {Qd : δ → Prop} {Qg : ε → Prop} (ht : P.underlying t = some (.struct #[f0, f1, f2, f3, f4])) (hone : oneCellFields P #[f0, f1, f2, f3, f4] = true) (hC : P.cellsOf t = 5)
    (ha : ∀ n, n < fuel → Opens enc P w n f0.type a Qa) (hb : ∀ n, n < fuel → Opens enc P w n f1.type b Qb) (hc : ∀ n, n < fuel → Opens enc P w n f2.type c Qc) (hd : ∀ n, n < fuel → Opens enc P w n f3.type d Qd) (hg : ∀ n, n < fuel → Opens enc P w n f4.type g Qg) :
    Opens enc P w fuel t (Kd.pair a (Kd.pair b (Kd.pair c (Kd.pair d g)))) (fun x => Qa x.1 ∧ Qb x.2.1 ∧ Qc x.2.2.1 ∧ Qd x.2.2.2.1 ∧ Qg x.2.2.2.2) := by
  intro cs x h
  obtain ⟨xs, n, rfl, rfl, hl, hlx, hf⟩ := DataW.trod_struct ht h
  have hl' : cs.length = 5 := hl.trans hC
  obtain ⟨u0, _, k0, q0⟩ := field hone hl' hlx hf (i := 0) rfl (ha n (by omega))
  obtain ⟨u1, _, k1, q1⟩ := field hone hl' hlx hf (i := 1) rfl (hb n (by omega))
  obtain ⟨u2, _, k2, q2⟩ := field hone hl' hlx hf (i := 2) rfl (hc n (by omega))
  obtain ⟨u3, _, k3, q3⟩ := field hone hl' hlx hf (i := 3) rfl (hd n (by omega))
  obtain ⟨u4, _, k4, q4⟩ := field hone hl' hlx hf (i := 4) rfl (hg n (by omega))
  match cs, hl' with
  | [c0, c1, c2, c3, c4], _ => exact ⟨(u0, u1, u2, u3, u4), ⟨[c0], [c1, c2, c3, c4], rfl, k0, [c1], [c2, c3, c4], rfl, k1, [c2], [c3, c4], rfl, k2, [c3], [c4], rfl, k3, k4⟩, q0, q1, q2, q3, q4⟩

theorem opens_iso {d : Kd α} {Q : α → Prop} (f : β → α) (g : α → β) (hfg : ∀ x, f (g x) = x) (h : Opens enc P w fuel t d Q) : Opens enc P w fuel t (Kd.iso d f) (fun y => Q (f y)) := by
  intro cs x hx
  obtain ⟨v, hk, hq⟩ := h cs x hx
  exact ⟨g v, by show d.K w (f (g v)) cs; rw [hfg]; exact hk, by show Q (f (g v)); rw [hfg]; exact hq⟩

theorem opens_imp {d d' : Kd α} {Q Q' : α → Prop} (h : Opens enc P w fuel t d Q) (hd : ∀ v cs, d.K w v cs → d'.K w v cs) (hq : ∀ v, Q v → Q' v) : Opens enc P w fuel t d' Q' := by
  intro cs x hx
  obtain ⟨v, hk, hv⟩ := h cs x hx
  exact ⟨v, hd v cs hk, hq v hv⟩

/-- A type nested in itself. -/
theorem opens_fix {F : Kd α → Kd α} {sz : Nat} {E : List Nat} {hs : ∀ n, (Kd.upto F sz E n).sz = sz} {hE : ∀ n q, q ∈ (Kd.upto F sz E n).E → q ∈ E} {Q : α → Prop} (hm : Kd.Mono F)
    (step : ∀ (n : Nat), (∀ m, m < n → ∀ d, d = Kd.upto F sz E n → Opens enc P w m t d Q) → Opens enc P w (n + 1) t (F (Kd.upto F sz E n)) Q) : ∀ fuel, Opens enc P w fuel t (Kd.fix F sz E hs hE) Q := by
  have key : ∀ fuel, Opens enc P w fuel t (Kd.upto F sz E fuel) Q := by
    intro fuel
    induction fuel using Nat.strongRecOn with
    | _ fuel ih =>
      cases fuel with
      | zero => intro cs x h; simp [DataW.trod] at h
      | succ n =>
        refine step n ?_
        rintro m hm' d rfl
        exact opens_imp (ih m (by omega)) (fun v cs hk => Kd.upto_K_le hm hs (by omega) hk) (fun _ h => h)
  intro fuel
  exact opens_imp (key fuel) (fun v cs hk => ⟨fuel, hk⟩) (fun _ h => h)
end
end Go.Proofs.Ytmelflbbeecjfaa.Opens
